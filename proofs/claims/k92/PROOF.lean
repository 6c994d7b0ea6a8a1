import PyProof.Rows.All
import Wide.All
import OpenK.AllK
import Wide.FinOn
import HandS.ForMost
import HandS.IsInst
import HandS.Wide
import HandS.Conv
import HandS.Walk
import HandS.Exc
import HandS.Flow
import HandS.TupAny
import HandS.Zip
import HandS.Ends
import HandS.Words
import KE.SortData
import PySem.Challenge.RW_siegeworks_k92_whole_fewest_days_more
set_option Elab.async false
set_option linter.all false
set_option maxRecDepth 100000
set_option maxHeartbeats 4000000
set_option autoImplicit false
section
/-! SL: a layer of plain values over the hand layer -/
namespace SL
open PySem PySem.Spec PyProof.Rows L2
abbrev Fg := PySem.W.Frag

inductive PV where
  | non | bl (b : Bool) | int (i : Int) | str (x : Str) | ty (n : String) | hand
  | tup (l : List PV) | lst (l : List PV) | scr (l : List Int)
  | dK (l : List (Key × PV)) | dT (l : List (List Key × PV))
instance : Inhabited PV := ⟨.non⟩
inductive Er where
  | stuck | exc (c : Str)
abbrev HS := List PV
abbrev M := StateT HS (Except Er)
def stuck {α : Type} : M α := fun _ => .error .stuck
def liftO {α : Type} : Option α → M α
  | some a => pure a
  | none => stuck
theorem M.bind_ok {α β : Type} {x : M α} {f : α → M β} {h : HS} {r : β × HS} (e : (x >>= f) h = .ok r) : ∃ a h1, x h = .ok (a, h1) ∧ f a h1 = .ok r := by
  have e : (Except.bind (x h) fun p => f p.1 p.2) = .ok r := e
  cases q : x h with
  | error z => rw [q] at e; cases e
  | ok p => rw [q] at e; exact ⟨p.1, p.2, rfl, e⟩
theorem M.pure_ok {α : Type} {a : α} {h : HS} {r : α × HS} (e : (pure a : M α) h = .ok r) : r = (a, h) := by
  have e : Except.ok (a, h) = .ok r := e
  cases e; rfl
theorem M.stuck_ok {α : Type} {h : HS} {r : α × HS} (e : (stuck : M α) h = .ok r) : False := by cases e
theorem M.lift_ok {α : Type} {o : Option α} {h : HS} {r : α × HS} (e : (liftO o : M α) h = .ok r) : o = some r.1 ∧ r.2 = h := by
  cases o with
  | none => cases e
  | some a => have := M.pure_ok e; subst this; exact ⟨rfl, rfl⟩

/-! ### values in the heap -/
/-- the script: a list of ints that nobody changes -/
def SqS (K : Fg) (F : Addr → Prop) (H : Hp) (a : Addr) (xs : List V) : Prop :=
  (F a ∧ H a = some (.lst xs)) ∨ (∃ o, H a = some (.frz o (.lst xs))) ∨
    ∃ (o : Obj) (its : Array Value) (n : Nat), K.lookup a = some o ∧ o.cls = .type "list" ∧ o.dict = none ∧ o.data = .seq its n ∧ its.size ≤ sizeLine ∧ Vals xs its.toList
theorem SqS.l {K : Fg} {F : Addr → Prop} {H : Hp} {a : Addr} {xs : List V} (h : SqS K F H a xs) : SqL K H a xs := by
  rcases h with h | h | h
  · exact .inl (.inl h.2)
  · exact .inl (.inr h)
  · exact .inr h
section
variable (K : Fg) (ah : Option Addr) (F : Addr → Prop) (H : Hp)
mutual
inductive Rep : V → PV → Prop
  | non : Rep .non .non
  | bl (b : Bool) : Rep (.bl b) (.bl b)
  | int (i : Int) : Rep (.int i) (.int i)
  | str (x : Str) : Rep (.str x) (.str x)
  | ty (n : String) : Rep (.ty n) (.ty n)
  | hand {a : Addr} : ah = some a → Rep (.ref a) .hand
  | tup {a : Addr} {vs : List V} {ps : List PV} : SqT K H a vs → vs.length ≤ sizeLine → Reps vs ps → Rep (.ref a) (.tup ps)
  | lst {a : Addr} {vs : List V} {ps : List PV} : F a → H a = some (.lst vs) → vs.length ≤ sizeLine → Reps vs ps → Rep (.ref a) (.lst ps)
  | scr {a : Addr} {ns : List Int} : SqS K F H a (ns.map V.int) → ns.length ≤ sizeLine → Rep (.ref a) (.scr ns)
  | dK {a : Addr} {kvs : List (Key × V)} {ps : List (Key × PV)} : F a → H a = some (.dK kvs) → kvs.length ≤ sizeLine → kvs.map (·.1) = ps.map (·.1) → Reps (kvs.map (·.2)) (ps.map (·.2)) → Rep (.ref a) (.dK ps)
  | dT {a : Addr} {kvs : List (List Key × V)} {ps : List (List Key × PV)} : F a → H a = some (.dT kvs) → kvs.length ≤ sizeLine → kvs.map (·.1) = ps.map (·.1) → Reps (kvs.map (·.2)) (ps.map (·.2)) → Rep (.ref a) (.dT ps)
inductive Reps : List V → List PV → Prop
  | nil : Reps [] []
  | cons {v : V} {p : PV} {vs : List V} {ps : List PV} : Rep v p → Reps vs ps → Reps (v :: vs) (p :: ps)
end
end

/-- what is frozen, and all tuples, stand -/
structure Kp (K : Fg) (F : Addr → Prop) (H : Hp) (F' : Addr → Prop) (H' : Hp) : Prop where
  mono : ∀ a, F a → F' a
  keep : ∀ a o, F a → H a = some o → H' a = some o
  tup : ∀ a xs, SqT K H a xs → SqT K H' a xs
  frz : ∀ a o u, H a = some (.frz o u) → H' a = some (.frz o u)
section
variable {K : Fg} {ah : Option Addr} {F F' F'' : Addr → Prop} {H H' H'' : Hp}
theorem Kp.refl : Kp K F H F H := ⟨fun _ h => h, fun _ _ _ h => h, fun _ _ h => h, fun _ _ _ h => h⟩
theorem Kp.trans (a : Kp K F H F' H') (b : Kp K F' H' F'' H'') : Kp K F H F'' H'' :=
  ⟨fun x h => b.mono x (a.mono x h), fun x o f h => b.keep x o (a.mono x f) (a.keep x o f h), fun x xs h => b.tup x xs (a.tup x xs h), fun x o u h => b.frz x o u (a.frz x o u h)⟩
theorem Kp.scr (k : Kp K F H F' H') {a : Addr} {xs : List V} (h : SqS K F H a xs) : SqS K F' H' a xs := by
  rcases h with h | ⟨o, h⟩ | h
  · exact .inl ⟨k.mono _ h.1, k.keep _ _ h.1 h.2⟩
  · exact .inr (.inl ⟨o, k.frz _ _ _ h⟩)
  · exact .inr (.inr h)
mutual
theorem Rep.mono (k : Kp K F H F' H') : ∀ {v : V} {p : PV}, Rep K ah F H v p → Rep K ah F' H' v p
  | _, _, .non => .non
  | _, _, .bl b => .bl b
  | _, _, .int i => .int i
  | _, _, .str x => .str x
  | _, _, .ty n => .ty n
  | _, _, .hand e => .hand e
  | _, _, .tup h z r => .tup (k.tup _ _ h) z (Reps.mono k r)
  | _, _, .lst f h z r => .lst (k.mono _ f) (k.keep _ _ f h) z (Reps.mono k r)
  | _, _, .scr h z => .scr (k.scr h) z
  | _, _, .dK f h z e r => .dK (k.mono _ f) (k.keep _ _ f h) z e (Reps.mono k r)
  | _, _, .dT f h z e r => .dT (k.mono _ f) (k.keep _ _ f h) z e (Reps.mono k r)
theorem Reps.mono (k : Kp K F H F' H') : ∀ {vs : List V} {ps : List PV}, Reps K ah F H vs ps → Reps K ah F' H' vs ps
  | _, _, .nil => .nil
  | _, _, .cons r t => .cons (Rep.mono k r) (Reps.mono k t)
end
theorem Reps.length : ∀ {vs : List V} {ps : List PV}, Reps K ah F H vs ps → vs.length = ps.length
  | _, _, .nil => rfl
  | _, _, .cons _ t => congrArg (· + 1) (Reps.length t)
theorem Reps.get : ∀ {vs : List V} {ps : List PV} {i : Nat} {p : PV}, Reps K ah F H vs ps → ps[i]? = some p → ∃ v, vs[i]? = some v ∧ Rep K ah F H v p
  | _, _, _, _, .nil, e => by simp at e
  | _, _, 0, _, .cons r _, e => by simp at e; subst e; exact ⟨_, rfl, r⟩
  | _, _, i + 1, p, .cons _ t, e => by
    obtain ⟨v, h1, h2⟩ := Reps.get (i := i) (p := p) t (by simpa using e)
    exact ⟨v, by simpa using h1, h2⟩
theorem Reps.getV : ∀ {vs : List V} {ps : List PV} {i : Nat} {v : V}, Reps K ah F H vs ps → vs[i]? = some v → ∃ p, ps[i]? = some p ∧ Rep K ah F H v p
  | _, _, _, _, .nil, e => by simp at e
  | _, _, 0, _, .cons r _, e => by simp at e; subst e; exact ⟨_, rfl, r⟩
  | _, _, i + 1, v, .cons _ t, e => by
    obtain ⟨p, h1, h2⟩ := Reps.getV (i := i) (v := v) t (by simpa using e)
    exact ⟨p, by simpa using h1, h2⟩
theorem Reps.append : ∀ {vs ws : List V} {ps qs : List PV}, Reps K ah F H vs ps → Reps K ah F H ws qs → Reps K ah F H (vs ++ ws) (ps ++ qs)
  | _, _, _, _, .nil, s => s
  | _, _, _, _, .cons r t, s => .cons r (Reps.append t s)
theorem Reps.take : ∀ {vs : List V} {ps : List PV} (n : Nat), Reps K ah F H vs ps → Reps K ah F H (vs.take n) (ps.take n)
  | _, _, 0, _ => .nil
  | _, _, _ + 1, .nil => .nil
  | _, _, n + 1, .cons r t => .cons r (Reps.take n t)
theorem Reps.drop : ∀ {vs : List V} {ps : List PV} (n : Nat), Reps K ah F H vs ps → Reps K ah F H (vs.drop n) (ps.drop n)
  | _, _, 0, r => r
  | _, _, _ + 1, .nil => .nil
  | _, _, n + 1, .cons _ t => Reps.drop n t
theorem Reps.set {x : V} {q : PV} (r : Rep K ah F H x q) : ∀ {vs : List V} {ps : List PV} (i : Nat), Reps K ah F H vs ps → Reps K ah F H (vs.set i x) (ps.set i q)
  | _, _, _, .nil => .nil
  | _, _, 0, .cons _ t => .cons r t
  | _, _, i + 1, .cons z t => .cons z (Reps.set r i t)
theorem Reps.ints : ∀ (ns : List Int), Reps K ah F H (ns.map V.int) (ns.map PV.int)
  | [] => .nil
  | n :: r => .cons (.int n) (Reps.ints r)
theorem Reps.dropLast {vs : List V} {ps : List PV} (r : Reps K ah F H vs ps) : Reps K ah F H vs.dropLast ps.dropLast := by
  rw [List.dropLast_eq_take, List.dropLast_eq_take, r.length]
  exact r.take _
theorem Reps.erase : ∀ {vs : List V} {ps : List PV} (i : Nat), Reps K ah F H vs ps → Reps K ah F H (vs.eraseIdx i) (ps.eraseIdx i)
  | _, _, _, .nil => .nil
  | _, _, 0, .cons _ t => t
  | _, _, i + 1, .cons z t => .cons z (Reps.erase i t)
theorem Reps.reverse {vs : List V} {ps : List PV} (r : Reps K ah F H vs ps) : Reps K ah F H vs.reverse ps.reverse := by
  induction r using Reps.rec (motive_1 := fun _ _ _ => True) with
  | nil => exact .nil
  | cons r t _ ih => rw [List.reverse_cons, List.reverse_cons]; exact Reps.append ih (.cons r .nil)
  | _ => trivial
end

/-! ### the law's hand -/
structure GI (K : Fg) (ah : Option Addr) (F : Addr → Prop) (H : Hp) (hs : HS) : Prop where
  fin : ∀ a, F a → H a ≠ none
  at_ : ∀ a, ah = some a → ¬ F a ∧ ∃ vs, H a = some (.lst vs) ∧ vs.length ≤ sizeLine ∧ Reps K ah F H vs hs
/-- an expression's step: the frozen grows by new things alone, all but the hand stands -/
structure Ext (K : Fg) (ah : Option Addr) (F : Addr → Prop) (H : Hp) (F' : Addr → Prop) (H' : Hp) : Prop where
  mono : ∀ a, F a → F' a
  new : ∀ a, F' a → F a ∨ H a = none
  keep : ∀ a o, ah ≠ some a → H a = some o → H' a = some o
section
variable {K : Fg} {ah : Option Addr} {F F' F'' : Addr → Prop} {H H' H'' : Hp} {hs : HS}
theorem GI.kp (g : GI K ah F H hs) (e : Ext K ah F H F' H') : Kp K F H F' H' := by
  refine ⟨e.mono, fun a o f h => e.keep a o (fun z => (g.at_ a z).1 f) h, fun a xs h => ?_, fun a o u h => e.keep a _ (fun z => by
    obtain ⟨_, vs, r, _⟩ := g.at_ a z
    rw [h] at r; cases r) h⟩
  have ne : ∀ {o}, H a = some o → (∀ vs, o ≠ .lst vs) → H' a = some o := fun {o} q d => e.keep a o (fun z => by
    obtain ⟨_, vs, r, _⟩ := g.at_ a z
    rw [q] at r; exact d vs (Option.some.inj r)) q
  rcases h with (h | ⟨o, h⟩) | h
  · exact .inl (.inl (ne h (fun _ z => by cases z)))
  · exact .inl (.inr ⟨o, ne h (fun _ z => by cases z)⟩)
  · exact .inr h
theorem Ext.refl : Ext K ah F H F H := ⟨fun _ h => h, fun _ h => .inl h, fun _ _ _ h => h⟩
theorem Ext.free (g : GI K ah F H hs) (e : Ext K ah F H F' H') {a : Addr} (h : H' a = none) (n : ah ≠ some a) : H a = none := by
  cases q : H a with
  | none => rfl
  | some o => rw [e.keep a o n q] at h; cases h
theorem Ext.trans {hs1 : HS} (g : GI K ah F H hs) (g' : GI K ah F' H' hs1) (a : Ext K ah F H F' H') (b : Ext K ah F' H' F'' H'') : Ext K ah F H F'' H'' := by
  refine ⟨fun x h => b.mono x (a.mono x h), fun x h => ?_, fun x o n h => b.keep x o n (a.keep x o n h)⟩
  rcases b.new x h with h | h
  · exact a.new x h
  · refine .inr (a.free g h fun z => ?_)
    obtain ⟨_, vs, r, _⟩ := g'.at_ x z
    rw [h] at r; cases r
/-- a new object laid, not frozen -/
theorem Ext.laid {p : Addr} {o : HO} (n : H p = none) : Ext K ah F H F (upd H p o) :=
  ⟨fun _ h => h, fun _ h => .inl h, fun a u _ h => by rw [upd_ne (ne_of_none h n)]; exact h⟩
/-- .. and frozen -/
theorem Ext.laidF {p : Addr} {o : HO} (n : H p = none) : Ext K ah F H (fun a => F a ∨ a = p) (upd H p o) :=
  ⟨fun _ h => .inl h, fun a h => h.elim .inl (fun e => .inr (e ▸ n)), fun a u _ h => by rw [upd_ne (ne_of_none h n)]; exact h⟩
theorem GI.kpL (g : GI K ah F H hs) {p : Addr} {o : HO} (n : H p = none) : Kp K F H F (upd H p o) := g.kp (Ext.laid n)
theorem GI.kpF (g : GI K ah F H hs) {p : Addr} {o : HO} (n : H p = none) : Kp K F H (fun a => F a ∨ a = p) (upd H p o) := g.kp (Ext.laidF n)
theorem GI.ne (g : GI K ah F H hs) {p : Addr} (n : H p = none) : ah ≠ some p := fun z => by
  obtain ⟨_, vs, r, _⟩ := g.at_ p z
  rw [n] at r; cases r
theorem GI.nf (g : GI K ah F H hs) {p : Addr} (n : H p = none) : ¬ F p := fun f => g.fin p f n
/-- an own thing frozen -/
theorem GI.frz (g : GI K ah F H hs) {a : Addr} {o : HO} (h : H a = some o) (n : ah ≠ some a) : GI K ah (fun b => F b ∨ b = a) H hs := by
  refine ⟨fun b f z => ?_, fun b e => ?_⟩
  · rcases f with f | f
    · exact g.fin b f z
    · rw [f, h] at z; cases z
  · obtain ⟨f, vs, h, z, r⟩ := g.at_ b e
    exact ⟨fun q => q.elim f fun q => n (q ▸ e), vs, h, z, r.mono ⟨fun _ h => .inl h, fun _ _ _ h => h, fun _ _ h => h, fun _ _ _ h => h⟩⟩
theorem GI.laid (g : GI K ah F H hs) {p : Addr} {o : HO} (n : H p = none) : GI K ah F (upd H p o) hs := by
  refine ⟨fun a f z => ?_, fun a e => ?_⟩
  · by_cases q : a = p
    · rw [q, upd_same] at z; cases z
    · rw [upd_ne q] at z; exact g.fin a f z
  · obtain ⟨f, vs, h, z, r⟩ := g.at_ a e
    exact ⟨f, vs, by rw [upd_ne (ne_of_none h n)]; exact h, z, r.mono (g.kpL n)⟩
end

/-! ### slots -/
inductive Slot where
  | un | fz (p : PV) | ow (p : PV)
abbrev Ev := List Slot
section
variable (K : Fg) (ah : Option Addr) (F : Addr → Prop) (H : Hp)
/-- a mutable thing of this frame's own -/
inductive Own (a : Addr) : PV → Prop
  | lst {vs : List V} {ps : List PV} : H a = some (.lst vs) → vs.length ≤ sizeLine → Reps K ah F H vs ps → Own a (.lst ps)
  | dK {kvs : List (Key × V)} {ps : List (Key × PV)} : H a = some (.dK kvs) → kvs.length ≤ sizeLine → kvs.map (·.1) = ps.map (·.1) → Reps K ah F H (kvs.map (·.2)) (ps.map (·.2)) → Own a (.dK ps)
  | dT {kvs : List (List Key × V)} {ps : List (List Key × PV)} : H a = some (.dT kvs) → kvs.length ≤ sizeLine → kvs.map (·.1) = ps.map (·.1) → Reps K ah F H (kvs.map (·.2)) (ps.map (·.2)) → Own a (.dT ps)
inductive SlotRep (N : Addr → Prop) : Option (Option V) → Slot → Prop
  | un (v : Option (Option V)) : SlotRep N v .un
  | fz {v : V} {p : PV} : Rep K ah F H v p → SlotRep N (some (some v)) (.fz p)
  | ow {a : Addr} {p : PV} : ¬ F a → ah ≠ some a → N a → Own K ah F H a p → SlotRep N (some (some (.ref a))) (.ow p)
/-- N: what an own thing's address is to be (new since the entry) -/
structure ER (N : Addr → Prop) (σ : L2.St) (ρ : Ev) : Prop where
  at_ : ∀ (i : Nat) (s : Slot), ρ[i]? = some s → SlotRep K ah F H N σ[i]? s
  apart : ∀ (i j : Nat) (p q : PV), i ≠ j → ρ[i]? = some (.ow p) → ρ[j]? = some (.ow q) → σ[i]? ≠ σ[j]?
  len : ρ.length = σ.length
end
section
variable {K : Fg} {ah : Option Addr} {F F' F'' : Addr → Prop} {H H' H'' : Hp} {hs : HS} {N : Addr → Prop} {σ : L2.St} {ρ : Ev} {a : Addr} {p : PV}
theorem Own.there (o : Own K ah F H a p) : ∃ u, H a = some u := by cases o <;> exact ⟨_, by assumption⟩
theorem Own.ext (g : GI K ah F H hs) (e : Ext K ah F H F' H') (n : ah ≠ some a) (o : Own K ah F H a p) : Own K ah F' H' a p := by
  cases o with
  | lst h z r => exact .lst (e.keep _ _ n h) z (r.mono (g.kp e))
  | dK h z k r => exact .dK (e.keep _ _ n h) z k (r.mono (g.kp e))
  | dT h z k r => exact .dT (e.keep _ _ n h) z k (r.mono (g.kp e))
theorem SlotRep.ext {v : Option (Option V)} {s : Slot} (g : GI K ah F H hs) (e : Ext K ah F H F' H') (r : SlotRep K ah F H N v s) : SlotRep K ah F' H' N v s := by
  cases r with
  | un => exact .un _
  | fz r => exact .fz (r.mono (g.kp e))
  | ow f n k o =>
    refine .ow (fun z => ?_) n k (o.ext g e n)
    rcases e.new _ z with z | z
    · exact f z
    · obtain ⟨u, h⟩ := o.there
      rw [z] at h; cases h
theorem ER.ext (g : GI K ah F H hs) (e : Ext K ah F H F' H') (r : ER K ah F H N σ ρ) : ER K ah F' H' N σ ρ := ⟨fun i s h => (r.at_ i s h).ext g e, r.apart, r.len⟩
theorem ER.get {i : Nat} {p : PV} (r : ER K ah F H N σ ρ) (h : ρ[i]? = some (.fz p)) : ∃ v, σ[i]? = some (some v) ∧ Rep K ah F H v p := by
  generalize e : σ[i]? = x
  have q := r.at_ i _ h
  rw [e] at q
  cases q with
  | fz r => exact ⟨_, rfl, r⟩
theorem ER.own {i : Nat} {p : PV} (r : ER K ah F H N σ ρ) (h : ρ[i]? = some (.ow p)) : ∃ a, σ[i]? = some (some (.ref a)) ∧ ¬ F a ∧ ah ≠ some a ∧ N a ∧ Own K ah F H a p := by
  generalize e : σ[i]? = x
  have q := r.at_ i _ h
  rw [e] at q
  cases q with
  | ow f n k o => exact ⟨_, rfl, f, n, k, o⟩
theorem ER.set {i : Nat} {v : V} {s : Slot} (r : ER K ah F H N σ ρ) (h : SlotRep K ah F H N (some (some v)) s) (d : ∀ q, s = .ow q → ∀ j t, j ≠ i → ρ[j]? = some (.ow t) → σ[j]? ≠ some (some v)) : ER K ah F H N (σ.set i (some v)) (ρ.set i s) := by
  by_cases hi : i < σ.length
  · have hi' : i < ρ.length := by rw [r.len]; exact hi
    refine ⟨fun j t e => ?_, fun j k p q ne e1 e2 => ?_, by rw [List.length_set, List.length_set]; exact r.len⟩
    · by_cases hj : i = j
      · subst hj
        rw [List.getElem?_set_self hi'] at e
        rw [List.getElem?_set_self hi]
        cases e; exact h
      · rw [List.getElem?_set_ne hj] at e ⊢
        exact r.at_ j t e
    · by_cases hj : i = j
      · subst hj
        rw [List.getElem?_set_self hi'] at e1
        rw [List.getElem?_set_ne ne] at e2
        rw [List.getElem?_set_self hi, List.getElem?_set_ne ne]
        cases e1
        exact (d _ rfl k q (Ne.symm ne) e2).symm
      · rw [List.getElem?_set_ne hj] at e1
        rw [List.getElem?_set_ne hj]
        by_cases hk : i = k
        · subst hk
          rw [List.getElem?_set_self hi'] at e2
          rw [List.getElem?_set_self hi]
          cases e2
          exact d _ rfl j p ne e1
        · rw [List.getElem?_set_ne hk] at e2
          rw [List.getElem?_set_ne hk]
          exact r.apart j k p q ne e1 e2
  · have e1 : σ.set i (some v) = σ := List.set_eq_of_length_le (by omega)
    have e2 : ρ.set i s = ρ := List.set_eq_of_length_le (by rw [r.len]; omega)
    rw [e1, e2]; exact r
theorem ER.setF {i : Nat} {v : V} {p : PV} (r : ER K ah F H N σ ρ) (h : Rep K ah F H v p) : ER K ah F H N (σ.set i (some v)) (ρ.set i (.fz p)) := r.set (.fz h) fun _ z => by cases z
theorem ER.unset {i : Nat} (r : ER K ah F H N σ ρ) : ER K ah F H N (σ.set i none) (ρ.set i .un) := by
  by_cases hi : i < σ.length
  · have hi' : i < ρ.length := by rw [r.len]; exact hi
    refine ⟨fun j t e => ?_, fun j k p q ne e1 e2 => ?_, by rw [List.length_set, List.length_set]; exact r.len⟩
    · by_cases hj : i = j
      · subst hj
        rw [List.getElem?_set_self hi'] at e
        cases e; exact .un _
      · rw [List.getElem?_set_ne hj] at e ⊢
        exact r.at_ j t e
    · by_cases hj : i = j
      · subst hj
        rw [List.getElem?_set_self hi'] at e1
        cases e1
      · by_cases hk : i = k
        · subst hk
          rw [List.getElem?_set_self hi'] at e2
          cases e2
        · rw [List.getElem?_set_ne hj] at e1
          rw [List.getElem?_set_ne hk] at e2
          rw [List.getElem?_set_ne hj, List.getElem?_set_ne hk]
          exact r.apart j k p q ne e1 e2
  · have e1 : σ.set i none = σ := List.set_eq_of_length_le (by omega)
    have e2 : ρ.set i .un = ρ := List.set_eq_of_length_le (by rw [r.len]; omega)
    rw [e1, e2]; exact r
/-- the frozen things, as an expression leaves them: an own thing frozen -/
theorem Ext.frz (n : H a = none) : Ext K ah F H (fun b => F b ∨ b = a) H := ⟨fun _ h => .inl h, fun b h => h.elim .inl fun e => .inr (e ▸ n), fun _ _ _ h => h⟩
def wipeE (ρ : Ev) : List Nat → Ev
  | [] => ρ
  | v :: vs => (wipeE ρ vs).set v .un
theorem ER.wipe (r : ER K ah F H N σ ρ) : ∀ vs : List Nat, ER K ah F H N (L2.wipe σ vs) (wipeE ρ vs)
  | [] => r
  | v :: vs => (ER.wipe r vs).unset
theorem Kp.frzn : Kp K F H (fun b => F b ∨ b = a) H := ⟨fun _ h => .inl h, fun _ _ _ h => h, fun _ _ h => h, fun _ _ _ h => h⟩
/-- an own thing that is frozen now -/
theorem Own.frzn (o : Own K ah F H a p) : Rep K ah (fun b => F b ∨ b = a) H (.ref a) p := by
  cases o with
  | lst h z r => exact .lst (.inr rfl) h z (r.mono .frzn)
  | dK h z k r => exact .dK (.inr rfl) h z k (r.mono .frzn)
  | dT h z k r => exact .dT (.inr rfl) h z k (r.mono .frzn)
theorem Rep.own {v : V} (f : F a) (o : Own K ah F H a p) : Rep K ah F H (.ref a) p := by
  cases o with
  | lst h z r => exact .lst f h z r
  | dK h z k r => exact .dK f h z k r
  | dT h z k r => exact .dT f h z k r
end
end SL

end
section
namespace SL
open PySem PySem.Spec PyProof.Rows L2
/-! ### judgements -/
abbrev EM := Ev → M PV
/-- what an own thing's address is to be: new since the entry -/
def tS (K : Fg) (g : EM) : TE := fun σ H Q => ∃ ah F N ρ hs p hs', GI K ah F H hs ∧ ER K ah F H N σ ρ ∧ g ρ hs = .ok (p, hs') ∧
  ∀ F' H' v, Ext K ah F H F' H' → GI K ah F' H' hs' → Rep K ah F' H' v p → Q v H'
/-- read where it stands, an own thing not frozen -/
def RepB (K : Fg) (ah : Option Addr) (F : Addr → Prop) (H : Hp) (σ : L2.St) (ρ : Ev) (v : V) (p : PV) : Prop := Rep K ah F H v p ∨ ∃ i : Nat, ρ[i]? = some (.ow p) ∧ σ[i]? = some (some v)
def tSB (K : Fg) (g : EM) : TE := fun σ H Q => ∃ ah F N ρ hs p hs', GI K ah F H hs ∧ ER K ah F H N σ ρ ∧ g ρ hs = .ok (p, hs') ∧
  ∀ F' H' v, Ext K ah F H F' H' → GI K ah F' H' hs' → RepB K ah F' H' σ ρ v p → Q v H'
/-- a new thing, not frozen -/
def tSF (K : Fg) (g : EM) : TE := fun σ H Q => ∃ ah F N ρ hs p hs', GI K ah F H hs ∧ ER K ah F H N σ ρ ∧ g ρ hs = .ok (p, hs') ∧
  ∀ F' H' a, Ext K ah F H F' H' → GI K ah F' H' hs' → H a = none → ¬ F' a → Own K ah F' H' a p → Q (.ref a) H'
def tST (K : Fg) (g : Ev → M Bool) : TT := fun σ H Q => ∃ ah F N ρ hs p hs', GI K ah F H hs ∧ ER K ah F H N σ ρ ∧ g ρ hs = .ok (p, hs') ∧
  ∀ F' H', Ext K ah F H F' H' → GI K ah F' H' hs' → Q p H'
def tSA (K : Fg) (g : Ev → M (List PV)) : TA := fun σ H Q => ∃ ah F N ρ hs p hs', GI K ah F H hs ∧ ER K ah F H N σ ρ ∧ g ρ hs = .ok (p, hs') ∧
  ∀ F' H' v, Ext K ah F H F' H' → GI K ah F' H' hs' → Reps K ah F' H' v p → Q v H'
/-- arguments read where they stand -/
inductive RepsB (K : Fg) (ah : Option Addr) (F : Addr → Prop) (H : Hp) (σ : L2.St) (ρ : Ev) : List V → List PV → Prop
  | nil : RepsB K ah F H σ ρ [] []
  | cons {v : V} {p : PV} {vs : List V} {ps : List PV} : RepB K ah F H σ ρ v p → RepsB K ah F H σ ρ vs ps → RepsB K ah F H σ ρ (v :: vs) (p :: ps)
def tSAB (K : Fg) (g : Ev → M (List PV)) : TA := fun σ H Q => ∃ ah F N ρ hs p hs', GI K ah F H hs ∧ ER K ah F H N σ ρ ∧ g ρ hs = .ok (p, hs') ∧
  ∀ F' H' v, Ext K ah F H F' H' → GI K ah F' H' hs' → RepsB K ah F' H' σ ρ v p → Q v H'
abbrev SE (X : Cx) (e : Expr) (g : EM) : Prop := PE X e (tS X.K g)
abbrev SB (X : Cx) (e : Expr) (g : EM) : Prop := PE X e (tSB X.K g)
abbrev SF (X : Cx) (e : Expr) (g : EM) : Prop := PE X e (tSF X.K g)
abbrev ST (X : Cx) (e : Expr) (g : Ev → M Bool) : Prop := PT X e (tST X.K g)
abbrev SA (X : Cx) (es : List Expr) (g : Ev → M (List PV)) : Prop := PA X es (tSA X.K g)
abbrev SAB (X : Cx) (es : List Expr) (g : Ev → M (List PV)) : Prop := PA X es (tSAB X.K g)

theorem PE.wk {X : Cx} {e : Expr} {t u : TE} (h : PE X e t) (w : ∀ σ H Q, u σ H Q → t σ H Q) : PE X e u := ⟨fun pins s σ H Q I q => h.run pins s σ H Q I (w σ H Q q)⟩
theorem PT.wk {X : Cx} {e : Expr} {t u : TT} (h : PT X e t) (w : ∀ σ H Q, u σ H Q → t σ H Q) : PT X e u := ⟨fun pins s σ H Q I q => h.run pins s σ H Q I (w σ H Q q)⟩
theorem PA.wk {X : Cx} {e : List Expr} {t u : TA} (h : PA X e t) (w : ∀ σ H Q, u σ H Q → t σ H Q) : PA X e u := ⟨fun pos pins s σ H Q I q => h.run pos pins s σ H Q I (w σ H Q q)⟩

/-- the content of a thing that is read -/
inductive Con (K : Fg) (ah : Option Addr) (F : Addr → Prop) (H : Hp) : V → PV → Prop
  | rep {v : V} {p : PV} : Rep K ah F H v p → Con K ah F H v p
  | own {a : Addr} {p : PV} : Own K ah F H a p → Con K ah F H (.ref a) p
section
variable {K : Fg} {ah : Option Addr} {F F' F'' : Addr → Prop} {H H' H'' : Hp} {hs : HS} {N : Addr → Prop} {σ : L2.St} {ρ : Ev} {a : Addr} {p : PV} {v : V} {vs : List V} {ps : List PV}
theorem RepB.con (E : ER K ah F H N σ ρ) (r : RepB K ah F H σ ρ v p) : Con K ah F H v p := by
  rcases r with r | ⟨i, h1, h2⟩
  · exact .rep r
  · obtain ⟨a, e, _, _, _, o⟩ := E.own h1
    rw [h2] at e; cases e
    exact .own o
theorem RepB.ext (g : GI K ah F H hs) (e : Ext K ah F H F' H') (r : RepB K ah F H σ ρ v p) : RepB K ah F' H' σ ρ v p := r.imp (Rep.mono (g.kp e)) id
theorem RepsB.ext (g : GI K ah F H hs) (e : Ext K ah F H F' H') (r : RepsB K ah F H σ ρ vs ps) : RepsB K ah F' H' σ ρ vs ps := by
  induction r with
  | nil => exact .nil
  | cons r _ ih => exact .cons (r.ext g e) ih
theorem Reps.b (r : Reps K ah F H vs ps) : RepsB K ah F H σ ρ vs ps := by
  induction r using Reps.rec (motive_1 := fun _ _ _ => True) with
  | nil => exact .nil
  | cons r t _ ih => exact .cons (.inl r) ih
  | _ => trivial
theorem Con.tup (c : Con K ah F H v (.tup ps)) : ∃ a vs, v = .ref a ∧ SqT K H a vs ∧ vs.length ≤ sizeLine ∧ Reps K ah F H vs ps := by
  cases c with
  | rep r => cases r with | tup h z r => exact ⟨_, _, rfl, h, z, r⟩
  | own o => cases o
theorem Con.lst (c : Con K ah F H v (.lst ps)) : ∃ a vs, v = .ref a ∧ H a = some (.lst vs) ∧ vs.length ≤ sizeLine ∧ Reps K ah F H vs ps := by
  cases c with
  | rep r => cases r with | lst _ h z r => exact ⟨_, _, rfl, h, z, r⟩
  | own o => cases o with | lst h z r => exact ⟨_, _, rfl, h, z, r⟩
theorem Con.scr {ns : List Int} (c : Con K ah F H v (.scr ns)) : ∃ a, v = .ref a ∧ SqL K H a (ns.map V.int) := by
  cases c with
  | rep r => cases r with | scr h z => exact ⟨_, rfl, h.l⟩
  | own o => cases o
theorem Con.hand (g : GI K ah F H hs) (c : Con K ah F H v .hand) : ∃ a vs, v = .ref a ∧ ah = some a ∧ H a = some (.lst vs) ∧ vs.length ≤ sizeLine ∧ Reps K ah F H vs hs := by
  cases c with
  | rep r =>
    cases r with
    | hand e =>
      obtain ⟨_, vs, h, z, r⟩ := g.at_ _ e
      exact ⟨_, vs, rfl, e, h, z, r⟩
  | own o => cases o
theorem Con.int {i : Int} (c : Con K ah F H v (.int i)) : v = .int i := by
  cases c with
  | rep r => cases r; rfl
  | own o => cases o
theorem Con.str {i : Str} (c : Con K ah F H v (.str i)) : v = .str i := by
  cases c with
  | rep r => cases r; rfl
  | own o => cases o
theorem Con.bl {i : Bool} (c : Con K ah F H v (.bl i)) : v = .bl i := by
  cases c with
  | rep r => cases r; rfl
  | own o => cases o
theorem Con.non (c : Con K ah F H v .non) : v = .non := by
  cases c with
  | rep r => cases r; rfl
  | own o => cases o
/-- read as a list or a tuple -/
theorem Con.seq (c : Con K ah F H v p) : (∀ ps, p = .tup ps ∨ p = .lst ps → ∃ a vs, v = .ref a ∧ (SqL K H a vs ∨ SqT K H a vs) ∧ vs.length ≤ sizeLine ∧ Reps K ah F H vs ps) := by
  intro ps e
  rcases e with rfl | rfl
  · obtain ⟨a, vs, e, h, z, r⟩ := c.tup
    exact ⟨a, vs, e, .inr h, z, r⟩
  · obtain ⟨a, vs, e, h, z, r⟩ := c.lst
    exact ⟨a, vs, e, .inl (.of h), z, r⟩
end

section
variable {X : Cx} {e a b c : Expr} {es : List Expr} {pos : Pos} {g ga gb gc : EM}
theorem SE.sb (h : SE X e g) : SB X e g := PE.wk h fun σ H Q ⟨ah, F, N, ρ, hs, p, hs', G, E, q, k⟩ => ⟨ah, F, N, ρ, hs, p, hs', G, E, q, fun F' H' v x y z => k F' H' v x y (.inl z)⟩
theorem SF.se (h : SF X e g) : SE X e g := PE.wk h fun σ H Q ⟨ah, F, N, ρ, hs, p, hs', G, E, q, k⟩ => by
  refine ⟨ah, F, N, ρ, hs, p, hs', G, E, q, fun F' H' a x y n nf o => ?_⟩
  obtain ⟨u, hu⟩ := o.there
  exact k (fun b => F' b ∨ b = a) H' (.ref a) ⟨fun b h => .inl (x.mono b h), fun b h => h.elim (x.new b) fun e => .inr (e ▸ n), x.keep⟩ (y.frz hu (G.ne n)) o.frzn

/-! ### names and constants -/
def slF : Option Slot → M PV
  | some (.fz p) => pure p
  | _ => stuck
def slB : Option Slot → M PV
  | some (.fz p) => pure p
  | some (.ow p) => pure p
  | _ => stuck
theorem slF_ok {o : Option Slot} {hs : HS} {r : PV × HS} (h : slF o hs = .ok r) : o = some (.fz r.1) ∧ r.2 = hs := by
  rcases o with _ | _ | p | p
  · cases h
  · cases h
  · cases M.pure_ok h; exact ⟨rfl, rfl⟩
  · cases h
theorem slB_ok {o : Option Slot} {hs : HS} {r : PV × HS} (h : slB o hs = .ok r) : (o = some (.fz r.1) ∨ o = some (.ow r.1)) ∧ r.2 = hs := by
  rcases o with _ | _ | p | p
  · cases h
  · cases h
  · cases M.pure_ok h; exact ⟨.inl rfl, rfl⟩
  · cases M.pure_ok h; exact ⟨.inr rfl, rfl⟩
def gVar (i : Nat) : EM := fun ρ => slF ρ[i]?
def gVarB (i : Nat) : EM := fun ρ => slB ρ[i]?
def gC (p : PV) : EM := fun _ => pure p
theorem se_var {i : Nat} {x : Str} (h : PE X (.Name x pos) (tVar i)) : SE X (.Name x pos) (gVar i) := PE.wk h fun σ H Q ⟨ah, F, N, ρ, hs, p, hs', G, E, q, k⟩ => by
  obtain ⟨e, e2⟩ := slF_ok q
  cases e2
  obtain ⟨v, e1, r⟩ := E.get e
  exact ⟨v, e1, k F H v .refl G r⟩
theorem sb_var {i : Nat} {x : Str} (h : PE X (.Name x pos) (tVar i)) : SB X (.Name x pos) (gVarB i) := PE.wk h fun σ H Q ⟨ah, F, N, ρ, hs, p, hs', G, E, q, k⟩ => by
  obtain ⟨e, e2⟩ := slB_ok q
  cases e2
  rcases e with e | e
  · obtain ⟨v, e1, r⟩ := E.get e
    exact ⟨v, e1, k F H v .refl G (.inl r)⟩
  · obtain ⟨a, e1, _⟩ := E.own e
    exact ⟨.ref a, e1, k F H _ .refl G (.inr ⟨i, e, e1⟩)⟩
/-- a constant -/
theorem se_c {v : V} {p : PV} (h : PE X e (tC v)) (r : ∀ ah F H, Rep X.K ah F H v p) : SE X e (gC p) := PE.wk h fun σ H Q ⟨ah, F, N, ρ, hs, p, hs', G, E, q, k⟩ => by
  cases M.pure_ok q
  exact k F H v .refl G (r _ _ _)
theorem se_int {i : Int} {j} : SE X (.Constant (.int i) j pos) (gC (.int i)) := se_c pe_int fun _ _ _ => .int i
theorem se_bl {i : Bool} {j} : SE X (.Constant (.bool i) j pos) (gC (.bl i)) := se_c pe_bl fun _ _ _ => .bl i
theorem se_str {i : Str} {j} : SE X (.Constant (.str i) j pos) (gC (.str i)) := se_c pe_str fun _ _ _ => .str i
theorem se_non {j} : SE X (.Constant .none j pos) (gC .non) := se_c pe_non fun _ _ _ => .non
/-- a module's constant -/
theorem se_gint {x : Str} {i : Int} {t : Tok} (hm : X.mg x = some (.int i t)) (hg : Gl X x) (hd : (x == ("__debug__" : Str)) = false := by decide) : SE X (.Name x pos) (gC (.int i)) := se_c (v := .int i) (pe_glob hg hm ⟨t, rfl⟩ hd) fun _ _ _ => .int i
theorem se_gstr {x y : Str} {t : Tok} (hm : X.mg x = some (.str y t)) (hg : Gl X x) (hd : (x == ("__debug__" : Str)) = false := by decide) : SE X (.Name x pos) (gC (.str y)) := se_c (v := .str y) (pe_glob hg hm ⟨t, rfl⟩ hd) fun _ _ _ => .str y

/-! ### two in a row -/
def gBin (f : PV → PV → M PV) (ga gb : EM) : EM := fun ρ => do
  let x ← ga ρ
  let y ← gb ρ
  f x y
/-- an operation on values: r is its reading -/
def OpS (X : Cx) (r : R2) (fp : PV → PV → M PV) : Prop := ∀ (ah : Option Addr) (F : Addr → Prop) (H : Hp) (hs hs' : HS) (x y : V) (p q z : PV) (Q : VK), GI X.K ah F H hs → Con X.K ah F H x p → Con X.K ah F H y q → fp p q hs = .ok (z, hs') →
  (∀ F' H' v, Ext X.K ah F H F' H' → GI X.K ah F' H' hs' → Rep X.K ah F' H' v z → Q v H') → r x y H Q
def OpF (X : Cx) (r : R2) (fp : PV → PV → M PV) : Prop := ∀ (ah : Option Addr) (F : Addr → Prop) (H : Hp) (hs hs' : HS) (x y : V) (p q z : PV) (Q : VK), GI X.K ah F H hs → Con X.K ah F H x p → Con X.K ah F H y q → fp p q hs = .ok (z, hs') →
  (∀ F' H' a, Ext X.K ah F H F' H' → GI X.K ah F' H' hs' → H a = none → ¬ F' a → Own X.K ah F' H' a z → Q (.ref a) H') → r x y H Q
theorem bin_w {r : R2} {fp : PV → PV → M PV} (ho : OpS X r fp) (σ : L2.St) (H : Hp) (Q : VK) (h : tS X.K (gBin fp ga gb) σ H Q) : tOp r (tSB X.K ga) (tSB X.K gb) σ H Q := by
  obtain ⟨ah, F, N, ρ, hs, p, hs', G, E, q, k⟩ := h
  obtain ⟨x, h1, q1, q⟩ := M.bind_ok q
  obtain ⟨y, h2, q2, q⟩ := M.bind_ok q
  refine ⟨ah, F, N, ρ, hs, x, h1, G, E, q1, fun F1 H1 v1 x1 G1 r1 => ?_⟩
  have E1 := E.ext G x1
  refine ⟨ah, F1, N, ρ, h1, y, h2, G1, E1, q2, fun F2 H2 v2 x2 G2 r2 => ?_⟩
  have E2 := E1.ext G1 x2
  have x12 := x1.trans G G1 x2
  exact ho ah F2 H2 h2 hs' v1 v2 x y p Q G2 ((r1.ext G1 x2).con E2) (r2.con E2) q fun F3 H3 v x3 G3 r3 => k F3 H3 v (x12.trans G G2 x3) G3 r3
theorem bin_f {r : R2} {fp : PV → PV → M PV} (ho : OpF X r fp) (σ : L2.St) (H : Hp) (Q : VK) (h : tSF X.K (gBin fp ga gb) σ H Q) : tOp r (tSB X.K ga) (tSB X.K gb) σ H Q := by
  obtain ⟨ah, F, N, ρ, hs, p, hs', G, E, q, k⟩ := h
  obtain ⟨x, h1, q1, q⟩ := M.bind_ok q
  obtain ⟨y, h2, q2, q⟩ := M.bind_ok q
  refine ⟨ah, F, N, ρ, hs, x, h1, G, E, q1, fun F1 H1 v1 x1 G1 r1 => ?_⟩
  have E1 := E.ext G x1
  refine ⟨ah, F1, N, ρ, h1, y, h2, G1, E1, q2, fun F2 H2 v2 x2 G2 r2 => ?_⟩
  have E2 := E1.ext G1 x2
  have x12 := x1.trans G G1 x2
  exact ho ah F2 H2 h2 hs' v1 v2 x y p Q G2 ((r1.ext G1 x2).con E2) (r2.con E2) q fun F3 H3 a x3 G3 n nf o => k F3 H3 a (x12.trans G G2 x3) G3 (x12.free G n (G2.ne n)) nf o
theorem se_op {op : Operator} {r : R2} {fp : PV → PV → M PV} (hr : OpR X (binaryOp op) r) (ho : OpS X r fp) (ha : SB X a ga) (hb : SB X b gb) : SE X (.BinOp a op b pos) (gBin fp ga gb) := PE.wk (pe_op hr ha hb) (bin_w ho)
theorem sf_op {op : Operator} {r : R2} {fp : PV → PV → M PV} (hr : OpR X (binaryOp op) r) (ho : OpF X r fp) (ha : SB X a ga) (hb : SB X b gb) : SF X (.BinOp a op b pos) (gBin fp ga gb) := PE.wk (pe_op hr ha hb) (bin_f ho)
theorem se_cmp {op : CmpOp} {r : R2} {fp : PV → PV → M PV} (hr : OpR X (compareOp op) r) (ho : OpS X r fp) (ha : SB X a ga) (hb : SB X b gb) (hm : behindInMarks op b = false) : SE X (.Compare a [op] [b] pos) (gBin fp ga gb) := PE.wk (pe_cmpR hr ha hb hm) (bin_w ho)
theorem OpS.or {r r' : R2} {f f' fp : PV → PV → M PV} (h : OpS X r f) (h' : OpS X r' f') (hf : ∀ p q hs z, fp p q hs = .ok z → f p q hs = .ok z ∨ f' p q hs = .ok z) : OpS X (fun x y H Q => r x y H Q ∨ r' x y H Q) fp :=
  fun ah F H hs hs' x y p q z Q G c d e k => (hf p q hs _ e).imp (fun e => h ah F H hs hs' x y p q z Q G c d e k) fun e => h' ah F H hs hs' x y p q z Q G c d e k
end
end SL

end
section
namespace SL
open PySem PySem.Spec PyProof.Rows L2
abbrev SZ : Nat := 16777216
theorem szE : sizeLine = SZ := sizeLine_eq
theorem OpF.s {X : Cx} {r : R2} {fp : PV → PV → M PV} (h : OpF X r fp) : OpS X r fp := fun ah F H hs hs' x y p q z Q G c d e k => by
  refine h ah F H hs hs' x y p q z Q G c d e fun F' H' a x y n nf o => ?_
  obtain ⟨u, hu⟩ := o.there
  exact k (fun b => F' b ∨ b = a) H' (.ref a) ⟨fun b h => .inl (x.mono b h), fun b h => h.elim (x.new b) fun e => .inr (e ▸ n), x.keep⟩ (y.frz hu (G.ne n)) o.frzn
/-! ### a new tuple, a new list -/
theorem new_tup {K : Fg} {ah : Option Addr} {F : Addr → Prop} {H : Hp} {hs : HS} {vs : List V} {ps : List PV} {Q : VK} {a : Addr} (G : GI K ah F H hs) (n : H a = none) (z : vs.length ≤ sizeLine) (r : Reps K ah F H vs ps)
    (k : ∀ F' H' v, Ext K ah F H F' H' → GI K ah F' H' hs → Rep K ah F' H' v (.tup ps) → Q v H') : Q (.ref a) (upd H a (.tup vs)) :=
  k F _ _ (.laid n) (G.laid n) (.tup (SqT.of upd_same) z (r.mono (G.kpL n)))
theorem new_lst {K : Fg} {ah : Option Addr} {F : Addr → Prop} {H : Hp} {hs : HS} {vs : List V} {ps : List PV} {Q : VK} {a : Addr} (G : GI K ah F H hs) (n : H a = none) (z : vs.length ≤ sizeLine) (r : Reps K ah F H vs ps)
    (k : ∀ F' H' b, Ext K ah F H F' H' → GI K ah F' H' hs → H b = none → ¬ F' b → Own K ah F' H' b (.lst ps) → Q (.ref b) H') : Q (.ref a) (upd H a (.lst vs)) :=
  k F _ _ (.laid n) (G.laid n) n (G.nf n) (.lst upd_same z (r.mono (G.kpL n)))

/-! ### operators on values -/
def int2 (f : Int → Int → M PV) : PV → PV → M PV
  | .int i, .int j => f i j
  | _, _ => stuck
theorem int2_ok {f : Int → Int → M PV} {p q : PV} {hs : HS} {r : PV × HS} (h : int2 f p q hs = .ok r) : ∃ i j, p = .int i ∧ q = .int j ∧ f i j hs = .ok r := by
  unfold int2 at h
  split at h
  · exact ⟨_, _, rfl, rfl, h⟩
  · cases h
def guardM {α : Type} (c : Prop) [Decidable c] (x : M α) : M α := if c then x else stuck
theorem guard_ok {α : Type} {c : Prop} [Decidable c] {x : M α} {hs : HS} {r : α × HS} (h : guardM c x hs = .ok r) : c ∧ x hs = .ok r := by
  unfold guardM at h
  by_cases e : c
  · rw [if_pos e] at h; exact ⟨e, h⟩
  · rw [if_neg e] at h; cases h
section
variable {X : Cx}
theorem ops_int {g : Int → Int → Int} : OpS X (rI0 fun i j => .int (g i j)) (int2 fun i j => pure (.int (g i j))) := fun ah F H hs hs' x y p q z Q G c d e k => by
  obtain ⟨i, j, rfl, rfl, e⟩ := int2_ok e
  cases M.pure_ok e
  exact ⟨i, j, c.int, d.int, k F H _ .refl G (.int _)⟩
theorem ops_bl {g : Int → Int → Bool} : OpS X (rI0 fun i j => .bl (g i j)) (int2 fun i j => pure (.bl (g i j))) := fun ah F H hs hs' x y p q z Q G c d e k => by
  obtain ⟨i, j, rfl, rfl, e⟩ := int2_ok e
  cases M.pure_ok e
  exact ⟨i, j, c.int, d.int, k F H _ .refl G (.bl _)⟩
theorem ops_intC {C : Int → Int → Prop} {D : Int → Int → Prop} [∀ i j, Decidable (D i j)] {g : Int → Int → Int} (w : ∀ i j, D i j → C i j) : OpS X (rI C fun i j => .int (g i j)) (int2 fun i j => guardM (D i j) (pure (.int (g i j)))) := fun ah F H hs hs' x y p q z Q G c d e k => by
  obtain ⟨i, j, rfl, rfl, e⟩ := int2_ok e
  obtain ⟨hd, e⟩ := guard_ok e
  cases M.pure_ok e
  exact ⟨i, j, c.int, d.int, w i j hd, k F H _ .refl G (.int _)⟩
def pAdd : PV → PV → M PV
  | .int i, .int j => pure (.int (i + j))
  | .tup a, .tup b => guardM (a.length + b.length ≤ SZ) (pure (.tup (a ++ b)))
  | .lst a, .lst b => guardM (a.length + b.length ≤ SZ) (pure (.lst (a ++ b)))
  | _, _ => stuck
theorem ops_catT : OpS X (rCatA X.K) (fun p q => match p, q with | .tup a, .tup b => guardM (a.length + b.length ≤ SZ) (pure (.tup (a ++ b))) | _, _ => stuck) := fun ah F H hs hs' x y p q z Q G c d e k => by
  dsimp only at e
  split at e
  · obtain ⟨hl, e⟩ := guard_ok e
    cases M.pure_ok e
    rename_i a b
    obtain ⟨p1, vs, rfl, h1, z1, r1⟩ := c.tup
    obtain ⟨p2, ws, rfl, h2, z2, r2⟩ := d.tup
    have hl' : vs.length + ws.length ≤ sizeLine := by rw [r1.length, r2.length, szE]; exact hl
    refine ⟨p1, p2, vs, ws, rfl, rfl, h1, h2, hl', fun e => ?_, fun _ e => ?_, fun _ _ a n => ?_⟩
    · subst e
      cases r1
      exact k F H _ .refl G (.tup h2 z2 r2)
    · subst e
      cases r2
      rw [List.append_nil] at k
      exact k F H _ .refl G (.tup h1 z1 r1)
    · exact new_tup G n (by rw [List.length_append]; exact hl') (r1.append r2) k
  · cases e
theorem opf_catL : OpF X rCat (fun p q => match p, q with | .lst a, .lst b => guardM (a.length + b.length ≤ SZ) (pure (.lst (a ++ b))) | _, _ => stuck) := fun ah F H hs hs' x y p q z Q G c d e k => by
  dsimp only at e
  split at e
  · obtain ⟨hl, e⟩ := guard_ok e
    cases M.pure_ok e
    obtain ⟨p1, vs, rfl, h1, z1, r1⟩ := c.lst
    obtain ⟨p2, ws, rfl, h2, z2, r2⟩ := d.lst
    have hl' : vs.length + ws.length ≤ sizeLine := by rw [r1.length, r2.length, szE]; exact hl
    exact ⟨p1, p2, vs, ws, rfl, rfl, h1, h2, hl', fun a n => new_lst G n (by rw [List.length_append]; exact hl') (r1.append r2) k⟩
  · cases e
theorem ops_add : OpS X (fun x y H Q => (rI0 fun i j => .int (i + j)) x y H Q ∨ (fun x y H Q => rCatA X.K x y H Q ∨ rCat x y H Q) x y H Q) pAdd :=
  OpS.or (ops_int (g := fun i j => i + j)) (OpS.or (fp := fun p q => match p, q with | .tup a, .tup b => pAdd (.tup a) (.tup b) | .lst a, .lst b => pAdd (.lst a) (.lst b) | _, _ => stuck) ops_catT opf_catL.s fun p q hs z e => by
    split at e
    · exact .inl e
    · exact .inr e
    · cases e) fun p q hs z e => by
    unfold pAdd at e
    split at e
    · exact .inl e
    · exact .inr e
    · exact .inr e
    · cases e
theorem opr_add : OpR X (binaryOp .Add) (fun x y H Q => (rI0 fun i j => .int (i + j)) x y H Q ∨ (fun x y H Q => rCatA X.K x y H Q ∨ rCat x y H Q) x y H Q) := op_add.or (op_catA.or op_cat)
/-- xs + ys, a new list that is this frame's own -/
def pCat : PV → PV → M PV := fun p q => match p, q with | .lst a, .lst b => guardM (a.length + b.length ≤ SZ) (pure (.lst (a ++ b))) | _, _ => stuck
theorem opf_cat : OpF X rCat pCat := opf_catL
def pSub : PV → PV → M PV := int2 fun i j => pure (.int (i - j))
def pMul : PV → PV → M PV := int2 fun i j => guardM ((-(2 ^ 64) < i ∧ i < 2 ^ 64) ∨ (-(2 ^ 64) < j ∧ j < 2 ^ 64)) (pure (.int (i * j)))
def pDiv : PV → PV → M PV := int2 fun i j => guardM (0 < j ∧ j < 2 ^ 64) (pure (.int (i / j)))
def pMod : PV → PV → M PV := int2 fun i j => guardM (0 < j) (pure (.int (i % j)))
def pPow : PV → PV → M PV := int2 fun i j => guardM (0 ≤ j ∧ j ≤ 1000000 ∧ i.natAbs < 2 ^ 64) (pure (.int (i ^ j.toNat)))
def pShl : PV → PV → M PV := int2 fun i j => guardM (0 ≤ j ∧ j ≤ 1000000 ∧ i.natAbs < 2 ^ 64) (pure (.int (i * 2 ^ j.toNat)))
theorem ops_sub : OpS X (rI0 fun i j => .int (i - j)) pSub := ops_int
theorem ops_mul : OpS X (rI CMul fun i j => .int (i * j)) pMul := ops_intC fun _ _ h => h
theorem ops_div : OpS X (rI CDivW fun i j => .int (i / j)) pDiv := ops_intC fun i j h => wide_div (i := i) (b := 64) h.1 (by have := h.2; have := h.1; omega) (by decide) (by decide)
theorem ops_mod : OpS X (rI (fun _ j => 0 < j) fun i j => .int (i % j)) pMod := ops_intC fun _ _ h => h
theorem ops_pow : OpS X (rI CPow fun i j => .int (i ^ j.toNat)) pPow := ops_intC fun _ _ h => h
theorem ops_shl : OpS X (rI CPow fun i j => .int (i * 2 ^ j.toNat)) pShl := ops_intC fun _ _ h => h

/-! ### comparisons -/
def ints? : List PV → Option (List Int)
  | [] => some []
  | .int i :: r => (ints? r).map (i :: ·)
  | _ => none
theorem ints?_eq : ∀ {ps : List PV} {ns : List Int}, ints? ps = some ns → ps = ns.map PV.int
  | [], _, h => by cases h; rfl
  | p :: r, ns, h => by
    cases p with
    | int i =>
      have h : (ints? r).map (i :: ·) = some ns := h
      cases e : ints? r with
      | none => rw [e] at h; cases h
      | some ms =>
        rw [e] at h; cases h
        rw [ints?_eq e]; rfl
    | _ => cases h
theorem Reps.ints_of {K : Fg} {ah : Option Addr} {F : Addr → Prop} {H : Hp} : ∀ {vs : List V} {ns : List Int}, Reps K ah F H vs (ns.map PV.int) → vs = ns.map V.int
  | _, [], .nil => rfl
  | _, n :: r, .cons h t => by
    cases h
    rw [Reps.ints_of t]; rfl
def pLt : PV → PV → M PV
  | .int i, .int j => pure (.bl (decide (i < j)))
  | .tup a, .tup b => match ints? a, ints? b with
    | some ns, some ms => pure (.bl (HT.lexLt ns ms))
    | _, _ => stuck
  | _, _ => stuck
theorem ops_ltT : OpS X (rLtT X.K) (fun p q => match p, q with | .tup a, .tup b => pLt (.tup a) (.tup b) | _, _ => stuck) := fun ah F H hs hs' x y p q z Q G c d e k => by
  dsimp only at e
  split at e
  · rename_i a b
    unfold pLt at e
    dsimp only at e
    cases e1 : ints? a with
    | none => rw [e1] at e; cases e
    | some ns =>
      cases e2 : ints? b with
      | none => rw [e1, e2] at e; cases e
      | some ms =>
        rw [e1, e2] at e
        cases M.pure_ok e
        rw [ints?_eq e1] at c
        rw [ints?_eq e2] at d
        obtain ⟨p1, vs, rfl, h1, z1, r1⟩ := c.tup
        obtain ⟨p2, ws, rfl, h2, z2, r2⟩ := d.tup
        rw [r1.ints_of] at h1
        rw [r2.ints_of] at h2
        exact ⟨_, _, _, _, rfl, rfl, h1, h2, k F H _ .refl G (.bl _)⟩
  · cases e
theorem ops_lt : OpS X (fun x y H Q => (rI0 fun i j => .bl (decide (i < j))) x y H Q ∨ rLtT X.K x y H Q) pLt := OpS.or (ops_bl (g := fun i j => decide (i < j))) ops_ltT fun p q hs z e => by
  cases p with
  | int i => cases q with
    | int j => exact .inl e
    | _ => cases e
  | tup a => cases q with
    | tup b => exact .inr e
    | _ => cases e
  | _ => cases e
theorem opr_lt (hu : X.A.units < cLine) : OpR X (compareOp .Lt) (fun x y H Q => (rI0 fun i j => .bl (decide (i < j))) x y H Q ∨ rLtT X.K x y H Q) := op_lt.or (op_ltT hu)
def pLe : PV → PV → M PV := int2 fun i j => pure (.bl (decide (i ≤ j)))
def pGt : PV → PV → M PV := int2 fun i j => pure (.bl (decide (j < i)))
def pGe : PV → PV → M PV := int2 fun i j => pure (.bl (decide (j ≤ i)))
theorem ops_le : OpS X (rI0 fun i j => .bl (decide (i ≤ j))) pLe := ops_bl
theorem ops_gt : OpS X (rI0 fun i j => .bl (decide (j < i))) pGt := ops_bl
theorem ops_ge : OpS X (rI0 fun i j => .bl (decide (j ≤ i))) pGe := ops_bl

mutual
def toD : PV → Option PyData
  | .non => some .none
  | .bl b => some (.bool b)
  | .int i => some (.int i)
  | .str x => some (.str x)
  | .tup l => (toDs l).map .tuple
  | .lst l => (toDs l).map .list
  | _ => none
def toDs : List PV → Option (List PyData)
  | [] => some []
  | p :: r => match toD p, toDs r with
    | some d, some ds => some (d :: ds)
    | _, _ => none
end
mutual
theorem toD_rep {K : Fg} {ah : Option Addr} {F : Addr → Prop} {H : Hp} : ∀ {p : PV} {v : V} {d : PyData}, Rep K ah F H v p → toD p = some d → Dp K H v d
  | _, _, _, .non, h => by cases h; exact .non
  | _, _, _, .bl b, h => by cases h; exact .bl b
  | _, _, _, .int b, h => by cases h; exact .int b
  | _, _, _, .str b, h => by cases h; exact .str b
  | _, _, _, .ty n, h => by cases h
  | _, _, _, .hand _, h => by cases h
  | _, _, _, .scr _ _, h => by cases h
  | _, _, _, .dK _ _ _ _ _, h => by cases h
  | _, _, _, .dT _ _ _ _ _, h => by cases h
  | .tup l, _, d, .tup a z r, h => by
    rw [toD] at h
    cases e : toDs l with
    | none => rw [e] at h; cases h
    | some ds => rw [e] at h; cases h; exact .tup a (toDs_rep r e)
  | .lst l, _, d, .lst f a z r, h => by
    rw [toD] at h
    cases e : toDs l with
    | none => rw [e] at h; cases h
    | some ds => rw [e] at h; cases h; exact .lst (.of a) (toDs_rep r e)
theorem toDs_rep {K : Fg} {ah : Option Addr} {F : Addr → Prop} {H : Hp} : ∀ {ps : List PV} {vs : List V} {ds : List PyData}, Reps K ah F H vs ps → toDs ps = some ds → DpAll K H vs ds
  | _, _, _, .nil, h => by cases h; exact .nil
  | p :: ps, _, ds, .cons r t, h => by
    rw [toDs] at h
    cases e1 : toD p with
    | none => rw [e1] at h; cases h
    | some d =>
      cases e2 : toDs ps with
      | none => rw [e1, e2] at h; cases h
      | some ds => rw [e1, e2] at h; cases h; exact .cons (toD_rep r e1) (toDs_rep t e2)
end
theorem toD_con {K : Fg} {ah : Option Addr} {F : Addr → Prop} {H : Hp} {p : PV} {v : V} {d : PyData} (c : Con K ah F H v p) (h : toD p = some d) : Dp K H v d := by
  cases c with
  | rep r => exact toD_rep r h
  | own o =>
    cases o with
    | @lst vs ps a z r =>
      rw [toD] at h
      cases e : toDs ps with
      | none => rw [e] at h; cases h
      | some ds => rw [e] at h; cases h; exact .lst (.of a) (toDs_rep r e)
    | dK => cases h
    | dT => cases h
/-- == of data; the scalars apart -/
def pEqB (neg : Bool) : PV → PV → M PV
  | .int i, .int j => pure (.bl (neg ^^ (i == j)))
  | .str i, .str j => pure (.bl (neg ^^ (i == j)))
  | .bl i, .bl j => pure (.bl (neg ^^ (i == j)))
  | p, q => match toD p, toD q with
    | some d, some e => guardM (SeqAt.shaped d = true ∧ SeqAt.shaped e = true) (pure (.bl (neg ^^ PyData.eqv d e)))
    | _, _ => stuck
def pEq : PV → PV → M PV := pEqB false
def pNe : PV → PV → M PV := pEqB true
theorem ops_eqN (neg : Bool) : OpS X (fun x y H Q => (scal x y = true ∧ Q (.bl (neg ^^ decide (x = y))) H) ∨ ∃ d e, Dp X.K H x d ∧ Dp X.K H y e ∧ SeqAt.shaped d = true ∧ SeqAt.shaped e = true ∧ Q (.bl (neg ^^ PyData.eqv d e)) H) (pEqB neg) := fun ah F H hs hs' x y p q z Q G c d e k => by
  unfold pEqB at e
  split at e
  · cases M.pure_ok e
    refine .inl ?_
    rw [c.int, d.int]
    exact ⟨rfl, by rw [dec_int]; exact k F H _ .refl G (.bl _)⟩
  · cases M.pure_ok e
    refine .inl ?_
    rw [c.str, d.str]
    exact ⟨rfl, by rw [dec_str]; exact k F H _ .refl G (.bl _)⟩
  · cases M.pure_ok e
    refine .inl ?_
    rw [c.bl, d.bl]
    exact ⟨rfl, by rw [dec_bl]; exact k F H _ .refl G (.bl _)⟩
  · cases e1 : toD p with
    | none => rw [e1] at e; cases e
    | some d1 =>
      cases e2 : toD q with
      | none => rw [e1, e2] at e; cases e
      | some d2 =>
        rw [e1, e2] at e
        obtain ⟨⟨s1, s2⟩, e⟩ := guard_ok e
        cases M.pure_ok e
        exact .inr ⟨_, _, toD_con c e1, toD_con d e2, s1, s2, k F H _ .refl G (.bl _)⟩
theorem ops_eq : OpS X (fun x y H Q => rEq x y H Q ∨ rEqD X.K x y H Q) pEq := fun ah F H hs hs' x y p q z Q G c d e k => (ops_eqN false ah F H hs hs' x y p q z Q G c d e k).imp (fun ⟨h, q⟩ => ⟨h, by simpa using q⟩) fun ⟨d, e, h1, h2, h3, h4, q⟩ => ⟨d, e, h1, h2, h3, h4, by simpa using q⟩
theorem ops_ne : OpS X (fun x y H Q => rNe x y H Q ∨ rNeD X.K x y H Q) pNe := fun ah F H hs hs' x y p q z Q G c d e k => (ops_eqN true ah F H hs hs' x y p q z Q G c d e k).imp (fun ⟨h, q⟩ => ⟨h, by simpa using q⟩) fun ⟨d, e, h1, h2, h3, h4, q⟩ => ⟨d, e, h1, h2, h3, h4, by simpa using q⟩
theorem opr_eq (hu : X.A.units + 64 < cLine) : OpR X (compareOp .Eq) (fun x y H Q => rEq x y H Q ∨ rEqD X.K x y H Q) := op_eq.or (op_eqD hu)
theorem opr_ne (hu : X.A.units + 64 < cLine) : OpR X (compareOp .NotEq) (fun x y H Q => rNe x y H Q ∨ rNeD X.K x y H Q) := op_ne.or (op_neD hu)

def flatP : PV → Bool
  | .non | .bl _ | .int _ | .str _ => true
  | _ => false
def eqP : PV → PV → Bool
  | .non, .non => true
  | .bl a, .bl b => a == b
  | .bl a, .int b => (if a then 1 else 0) == b
  | .int a, .bl b => a == (if b then 1 else 0)
  | .int a, .int b => a == b
  | .str a, .str b => a == b
  | _, _ => false
theorem flat_rep {K : Fg} {ah : Option Addr} {F : Addr → Prop} {H : Hp} {v w : V} {p q : PV} (r : Rep K ah F H v p) (f : flatP p = true) (r' : Rep K ah F H w q) (f' : flatP q = true) : flatV v = true ∧ eqV v w = eqP p q := by
  cases p <;> first | (cases f; done) | skip
  all_goals cases r
  all_goals (cases q <;> first | (cases f'; done) | skip)
  all_goals cases r'
  all_goals exact ⟨rfl, rfl⟩
theorem flat_one {K : Fg} {ah : Option Addr} {F : Addr → Prop} {H : Hp} {v : V} {p : PV} (r : Rep K ah F H v p) (f : flatP p = true) : flatV v = true := by
  cases p <;> first | (cases f; done) | skip
  all_goals (cases r; rfl)
theorem flat_all {K : Fg} {ah : Option Addr} {F : Addr → Prop} {H : Hp} {w : V} {q : PV} (r' : Rep K ah F H w q) (f' : flatP q = true) : ∀ {vs : List V} {ps : List PV}, Reps K ah F H vs ps → ps.all flatP = true → vs.all flatV = true ∧ inV w vs = ps.any fun y => eqP y q
  | _, _, .nil, _ => ⟨rfl, rfl⟩
  | _, _, .cons r t, f => by
    rw [List.all_cons, Bool.and_eq_true] at f
    obtain ⟨h1, h2⟩ := flat_all r' f' t f.2
    obtain ⟨h3, h4⟩ := flat_rep r f.1 r' f'
    refine ⟨by rw [List.all_cons, h1, h3]; rfl, ?_⟩
    unfold inV at h2 ⊢
    rw [List.any_cons, List.any_cons, h2, h4]
def pInB (neg : Bool) (p : PV) : PV → M PV
  | .tup l => guardM (flatP p = true ∧ l.all flatP = true) (pure (.bl (neg ^^ l.any fun y => eqP y p)))
  | .lst l => guardM (flatP p = true ∧ l.all flatP = true) (pure (.bl (neg ^^ l.any fun y => eqP y p)))
  | _ => stuck
def pIn : PV → PV → M PV := pInB false
def pNotIn : PV → PV → M PV := pInB true
theorem flat_con {K : Fg} {ah : Option Addr} {F : Addr → Prop} {H : Hp} {v : V} {p : PV} (r : Con K ah F H v p) (f : flatP p = true) : Rep K ah F H v p := by
  cases r with
  | rep r => exact r
  | own o => cases o <;> cases f
theorem ops_in (neg : Bool) : OpS X (rIn X.K neg) (pInB neg) := fun ah F H hs hs' x y p q z Q G c d e k => by
  have fin : ∀ {a vs ps}, y = .ref a → (SqL X.K H a vs ∨ SqT X.K H a vs) → Reps X.K ah F H vs ps → guardM (flatP p = true ∧ ps.all flatP = true) (pure (PV.bl (neg ^^ ps.any fun y => eqP y p))) hs = .ok (z, hs') → rIn X.K neg x y H Q := by
    intro a vs ps ey hq r e
    obtain ⟨⟨f1, f2⟩, e⟩ := guard_ok e
    cases M.pure_ok e
    have rx := flat_con c f1
    obtain ⟨h1, h2⟩ := flat_all rx f1 r f2
    refine ⟨a, vs, ey, hq, flat_one rx f1, h1, ?_⟩
    have q := k F H _ .refl G (.bl _)
    rw [← h2] at q
    cases neg <;> simpa using q
  cases q with
  | tup l =>
    obtain ⟨a, vs, e1, h, _, r⟩ := d.tup
    exact fin e1 (.inr h) r e
  | lst l =>
    obtain ⟨a, vs, e1, h, _, r⟩ := d.lst
    exact fin e1 (.inl (.of h)) r e
  | _ => cases e
/-- is None, is not None -/
def isNon : PV → Bool
  | .non => true
  | _ => false
def pIsN (neg : Bool) (p : PV) : PV → M PV
  | .non => pure (.bl (neg ^^ isNon p))
  | _ => stuck
theorem isNon_con {K : Fg} {ah : Option Addr} {F : Addr → Prop} {H : Hp} {v : V} {p : PV} (r : Con K ah F H v p) : decide (v = .non) = isNon p := by
  cases r with
  | rep r => cases r <;> rfl
  | own o => cases o <;> rfl
theorem ops_isN : OpS X (fun x y H Q => y = .non ∧ Q (.bl (decide (x = .non))) H) (pIsN false) := fun ah F H hs hs' x y p q z Q G c d e k => by
  cases q <;> first | (cases e; done) | skip
  cases M.pure_ok e
  refine ⟨d.non, ?_⟩
  rw [isNon_con c]
  simpa using k F H _ .refl G (.bl _)
theorem ops_notN : OpS X (fun x y H Q => y = .non ∧ Q (.bl (!decide (x = .non))) H) (pIsN true) := fun ah F H hs hs' x y p q z Q G c d e k => by
  cases q <;> first | (cases e; done) | skip
  cases M.pure_ok e
  refine ⟨d.non, ?_⟩
  rw [isNon_con c]
  simpa using k F H _ .refl G (.bl _)
end
end SL

end
section
namespace SL
open PySem PySem.Spec PyProof.Rows L2
/-! ### tests -/
abbrev TM := Ev → M Bool
/-- a value's truth -/
def pTru : PV → M Bool
  | .non => pure false
  | .bl b => pure b
  | .int i => pure (i != 0)
  | .tup l => pure (!l.isEmpty)
  | .lst l => pure (!l.isEmpty)
  | .dK l => pure (!l.isEmpty)
  | _ => stuck
def gTru (g : EM) : TM := fun ρ => do
  let x ← g ρ
  pTru x
theorem isEmpty_reps {K : Fg} {ah : Option Addr} {F : Addr → Prop} {H : Hp} {vs : List V} {ps : List PV} (r : Reps K ah F H vs ps) : vs.isEmpty = ps.isEmpty := by cases r <;> rfl
theorem isEmpty_keys {κ α β : Type} {l : List (κ × α)} {m : List (κ × β)} (h : l.map (·.1) = m.map (·.1)) : l.isEmpty = m.isEmpty := by
  cases l <;> cases m <;> first | rfl | simp at h
theorem tru_con {K : Fg} {ah : Option Addr} {F : Addr → Prop} {H : Hp} {hs hs' : HS} {v : V} {p : PV} {b : Bool} (c : Con K ah F H v p) (h : pTru p hs = .ok (b, hs')) : TruV K v H b ∧ hs' = hs := by
  cases p with
  | non => cases M.pure_ok h; rw [c.non]; exact ⟨rfl, rfl⟩
  | bl i => cases M.pure_ok h; rw [c.bl]; exact ⟨rfl, rfl⟩
  | int i => cases M.pure_ok h; rw [c.int]; exact ⟨rfl, rfl⟩
  | tup l =>
    cases M.pure_ok h
    obtain ⟨a, vs, rfl, h, z, r⟩ := c.tup
    exact ⟨.inr (.inl ⟨vs, h, by rw [isEmpty_reps r]⟩), rfl⟩
  | lst l =>
    cases M.pure_ok h
    obtain ⟨a, vs, rfl, h, z, r⟩ := c.lst
    exact ⟨.inl ⟨vs, .of h, by rw [isEmpty_reps r]⟩, rfl⟩
  | dK l =>
    cases M.pure_ok h
    refine ⟨?_, rfl⟩
    cases c with
    | rep r => cases r with | dK f h z e r => exact .inr (.inr ⟨_, h, by rw [isEmpty_keys e]⟩)
    | own o => cases o with | dK h z e r => exact .inr (.inr ⟨_, h, by rw [isEmpty_keys e]⟩)
  | _ => cases h
section
variable {X : Cx} {e a b c : Expr} {es rest : List Expr} {pos : Pos} {g ga gb gc : EM} {ta tb : TM} {gs : Ev → M (List PV)}
theorem st_tru (h : SB X e g) (he : ∀ whole, isTrue e X.env whole = (do let v ← whole; standAt e.pos; holding [v] (truthy v)) := by intro _; rfl) : ST X e (gTru g) := PT.wk (pt_truth h he) fun σ H Q ⟨ah, F, N, ρ, hs, p, hs', G, E, q, k⟩ => by
  obtain ⟨x, h1, q1, q⟩ := M.bind_ok q
  refine ⟨ah, F, N, ρ, hs, x, h1, G, E, q1, fun F1 H1 v1 x1 G1 r1 => ?_⟩
  obtain ⟨t, e⟩ := tru_con (r1.con (E.ext G x1)) q
  subst e
  exact ⟨p, t, k F1 H1 x1 G1⟩
/-- a truth value, as a test -/
def asBl : PV → M Bool
  | .bl b => pure b
  | _ => stuck
theorem asBl_ok {p : PV} {hs : HS} {r : Bool × HS} (h : asBl p hs = .ok r) : p = .bl r.1 ∧ r.2 = hs := by
  cases p <;> first | (cases h; done) | skip
  cases M.pure_ok h
  exact ⟨rfl, rfl⟩
def gTB (g : EM) : TM := fun ρ => do
  let x ← g ρ
  asBl x
theorem tb_w {t : TE} (w : ∀ σ H Q, tS X.K g σ H Q → t σ H Q) (σ : L2.St) (H : Hp) (Q : Bool → Hp → Prop) (h : tST X.K (gTB g) σ H Q) : t σ H fun x H' => ∃ k, x = .bl k ∧ Q k H' := by
  obtain ⟨ah, F, N, ρ, hs, p, hs', G, E, q, k⟩ := h
  obtain ⟨x, h1, q1, q⟩ := M.bind_ok q
  obtain ⟨rfl, rfl⟩ := asBl_ok q
  refine w σ H _ ⟨ah, F, N, ρ, hs, _, _, G, E, q1, fun F1 H1 v1 x1 G1 r1 => ?_⟩
  cases r1
  exact ⟨p, rfl, k F1 H1 x1 G1⟩
theorem st_cmp {op : CmpOp} {r : R2} {fp : PV → PV → M PV} (hr : OpR X (compareOp op) r) (ho : OpS X r fp) (ha : SB X a ga) (hb : SB X b gb) (hm : behindInMarks op b = false) : ST X (.Compare a [op] [b] pos) (gTB (gBin fp ga gb)) := PT.wk (pt_cmpR hr ha hb hm) (tb_w (bin_w ho))
/-- a op b op' c -/
def gChain (f f' : PV → PV → M PV) (ga gb gc : EM) : EM := fun ρ => do
  let x ← ga ρ
  let y ← gb ρ
  let t ← f x y
  let k ← asBl t
  if k = true then (do let z ← gc ρ; f' y z) else pure (.bl false)
theorem chain_w {r r' : R2} {f f' : PV → PV → M PV} (ho : OpS X r f) (ho' : OpS X r' f') (σ : L2.St) (H : Hp) (Q : VK) (h : tS X.K (gChain f f' ga gb gc) σ H Q) : tChain r r' (tSB X.K ga) (tSB X.K gb) (tSB X.K gc) σ H Q := by
  obtain ⟨ah, F, N, ρ, hs, p, hs', G, E, q, k⟩ := h
  obtain ⟨x, h1, q1, q⟩ := M.bind_ok q
  obtain ⟨y, h2, q2, q⟩ := M.bind_ok q
  obtain ⟨t, h3, q3, q'⟩ := M.bind_ok q
  clear q
  obtain ⟨d, h4, q4, qz⟩ := M.bind_ok q'
  clear q'
  obtain ⟨rfl, rfl⟩ := asBl_ok q4
  refine ⟨ah, F, N, ρ, hs, x, h1, G, E, q1, fun F1 H1 v1 x1 G1 r1 => ?_⟩
  have E1 := E.ext G x1
  refine ⟨ah, F1, N, ρ, h1, y, h2, G1, E1, q2, fun F2 H2 v2 x2 G2 r2 => ?_⟩
  have E2 := E1.ext G1 x2
  have x12 := x1.trans G G1 x2
  refine ho ah F2 H2 h2 _ v1 v2 x y _ _ G2 ((r1.ext G1 x2).con E2) (r2.con E2) q3 fun F3 H3 v x3 G3 r3 => ?_
  cases r3
  refine ⟨d, rfl, ?_⟩
  have E3 := E2.ext G2 x3
  have x13 := x12.trans G G2 x3
  cases d with
  | false =>
    rw [if_neg Bool.false_ne_true] at qz ⊢
    cases M.pure_ok qz
    exact k F3 H3 _ x13 G3 (.bl _)
  | true =>
    rw [if_pos rfl] at qz ⊢
    obtain ⟨z, h5, q5, q⟩ := M.bind_ok qz
    refine ⟨ah, F3, N, ρ, _, z, h5, G3, E3, q5, fun F4 H4 v4 x4 G4 r4 => ?_⟩
    have E4 := E3.ext G3 x4
    exact ho' ah F4 H4 h5 hs' v2 v4 y z p Q G4 (((r2.ext G2 x3).ext G3 x4).con E4) (r4.con E4) q fun F5 H5 v x5 G5 r5 => k F5 H5 v ((x13.trans G G3 x4).trans G G4 x5) G5 r5
theorem se_chain {op op' : CmpOp} {r r' : R2} {f f' : PV → PV → M PV} (hr : OpR X (compareOp op) r) (hr' : OpR X (compareOp op') r') (ho : OpS X r f) (ho' : OpS X r' f') (ha : SB X a ga) (hb : SB X b gb) (hc : SB X c gc)
    (hm : lastMarks [op, op'] [b, c] = false := by with_unfolding_all rfl) : SE X (.Compare a [op, op'] [b, c] pos) (gChain f f' ga gb gc) := PE.wk (pe_chain hr hr' ha hb hc hm) (chain_w ho ho')
theorem st_chain {op op' : CmpOp} {r r' : R2} {f f' : PV → PV → M PV} (hr : OpR X (compareOp op) r) (hr' : OpR X (compareOp op') r') (ho : OpS X r f) (ho' : OpS X r' f') (ha : SB X a ga) (hb : SB X b gb) (hc : SB X c gc)
    (hm : lastMarks [op, op'] [b, c] = false := by with_unfolding_all rfl) : ST X (.Compare a [op, op'] [b, c] pos) (gTB (gChain f f' ga gb gc)) := PT.wk (pt_chain hr hr' ha hb hc hm) (tb_w (chain_w ho ho'))
/-! and, or, not -/
def gAndT (t u : TM) : TM := fun ρ => do
  let x ← t ρ
  if x = true then u ρ else pure false
def gOrT (t u : TM) : TM := fun ρ => do
  let x ← t ρ
  if x = true then pure true else u ρ
def gNotT (t : TM) : TM := fun ρ => do
  let x ← t ρ
  pure (!x)
abbrev SW (X : Cx) (e : Expr) (g : TM) : Prop := PW X e (tST X.K g)
theorem PW.wk {X : Cx} {e : Expr} {t u : TT} (h : PW X e t) (w : ∀ σ H Q, u σ H Q → t σ H Q) : PW X e u := ⟨fun wh pins s σ H Q I q => h.run wh pins s σ H Q I (w σ H Q q)⟩
theorem sw_and1 (h : ST X a ta) : SW X (.BoolOp .And [a] pos) ta := pw_and1 h
theorem sw_or1 (h : ST X a ta) : SW X (.BoolOp .Or [a] pos) ta := pw_or1 h
theorem sw_and (h : ST X a ta) (h' : SW X (.BoolOp .And (b :: rest) pos) tb) : SW X (.BoolOp .And (a :: b :: rest) pos) (gAndT ta tb) := PW.wk (pw_and h h') fun σ H Q ⟨ah, F, N, ρ, hs, p, hs', G, E, q, k⟩ => by
  obtain ⟨x, h1, q1, q⟩ := M.bind_ok q
  refine ⟨ah, F, N, ρ, hs, x, h1, G, E, q1, fun F1 H1 x1 G1 => ?_⟩
  cases x with
  | true => exact ⟨ah, F1, N, ρ, h1, p, hs', G1, E.ext G x1, q, fun F2 H2 x2 G2 => k F2 H2 (x1.trans G G1 x2) G2⟩
  | false => cases M.pure_ok q; exact k F1 H1 x1 G1
theorem sw_or (h : ST X a ta) (h' : SW X (.BoolOp .Or (b :: rest) pos) tb) : SW X (.BoolOp .Or (a :: b :: rest) pos) (gOrT ta tb) := PW.wk (pw_or h h') fun σ H Q ⟨ah, F, N, ρ, hs, p, hs', G, E, q, k⟩ => by
  obtain ⟨x, h1, q1, q⟩ := M.bind_ok q
  refine ⟨ah, F, N, ρ, hs, x, h1, G, E, q1, fun F1 H1 x1 G1 => ?_⟩
  cases x with
  | false => exact ⟨ah, F1, N, ρ, h1, p, hs', G1, E.ext G x1, q, fun F2 H2 x2 G2 => k F2 H2 (x1.trans G G1 x2) G2⟩
  | true => cases M.pure_ok q; exact k F1 H1 x1 G1
theorem st_w (h : SW X e ta) : ST X e ta := PW.pt h
theorem st_not (h : ST X a ta) : ST X (.UnaryOp .Not a pos) (gNotT ta) := PT.wk (pt_not h) fun σ H Q ⟨ah, F, N, ρ, hs, p, hs', G, E, q, k⟩ => by
  obtain ⟨x, h1, q1, q⟩ := M.bind_ok q
  cases M.pure_ok q
  exact ⟨ah, F, N, ρ, hs, x, _, G, E, q1, fun F1 H1 x1 G1 => k F1 H1 x1 G1⟩
/-- as values: all but the last a truth value -/
def gAnd (ga gb : EM) : EM := fun ρ => do
  let x ← ga ρ
  let k ← asBl x
  if k = true then gb ρ else pure (.bl false)
def gOr (ga gb : EM) : EM := fun ρ => do
  let x ← ga ρ
  let k ← asBl x
  if k = true then pure (.bl true) else gb ρ
def gNot (ga : EM) : EM := fun ρ => do
  let x ← ga ρ
  let k ← asBl x
  pure (.bl (!k))
theorem se_one {op} (h : SE X a ga) : SE X (.BoolOp op [a] pos) ga := pe_one h
theorem se_and (h : SE X a ga) (h' : SE X (.BoolOp .And (b :: rest) pos) gb) : SE X (.BoolOp .And (a :: b :: rest) pos) (gAnd ga gb) := PE.wk (pe_and h h') fun σ H Q ⟨ah, F, N, ρ, hs, p, hs', G, E, q, k⟩ => by
  obtain ⟨x, h1, q1, q⟩ := M.bind_ok q
  obtain ⟨d, h2, q2, q⟩ := M.bind_ok q
  obtain ⟨rfl, rfl⟩ := asBl_ok q2
  refine ⟨ah, F, N, ρ, hs, _, _, G, E, q1, fun F1 H1 v1 x1 G1 r1 => ?_⟩
  cases r1
  refine ⟨d, rfl, ?_⟩
  cases d with
  | true => exact ⟨ah, F1, N, ρ, _, p, hs', G1, E.ext G x1, q, fun F2 H2 v x2 G2 r2 => k F2 H2 v (x1.trans G G1 x2) G2 r2⟩
  | false => cases M.pure_ok q; exact k F1 H1 _ x1 G1 (.bl _)
theorem se_or (h : SE X a ga) (h' : SE X (.BoolOp .Or (b :: rest) pos) gb) : SE X (.BoolOp .Or (a :: b :: rest) pos) (gOr ga gb) := PE.wk (pe_or h h') fun σ H Q ⟨ah, F, N, ρ, hs, p, hs', G, E, q, k⟩ => by
  obtain ⟨x, h1, q1, q⟩ := M.bind_ok q
  obtain ⟨d, h2, q2, q⟩ := M.bind_ok q
  obtain ⟨rfl, rfl⟩ := asBl_ok q2
  refine ⟨ah, F, N, ρ, hs, _, _, G, E, q1, fun F1 H1 v1 x1 G1 r1 => ?_⟩
  cases r1
  refine ⟨d, rfl, ?_⟩
  cases d with
  | false => exact ⟨ah, F1, N, ρ, _, p, hs', G1, E.ext G x1, q, fun F2 H2 v x2 G2 r2 => k F2 H2 v (x1.trans G G1 x2) G2 r2⟩
  | true => cases M.pure_ok q; exact k F1 H1 _ x1 G1 (.bl _)
theorem se_not (h : SE X a ga) : SE X (.UnaryOp .Not a pos) (gNot ga) := PE.wk (pe_not h) fun σ H Q ⟨ah, F, N, ρ, hs, p, hs', G, E, q, k⟩ => by
  obtain ⟨x, h1, q1, q⟩ := M.bind_ok q
  obtain ⟨d, h2, q2, q⟩ := M.bind_ok q
  obtain ⟨rfl, rfl⟩ := asBl_ok q2
  cases M.pure_ok q
  refine ⟨ah, F, N, ρ, hs, _, _, G, E, q1, fun F1 H1 v1 x1 G1 r1 => ?_⟩
  cases r1
  exact ⟨d, rfl, k F1 H1 _ x1 G1 (.bl _)⟩
theorem se_neg (h : SE X a ga) : SE X (.UnaryOp .USub a pos) (fun ρ => do
    let x ← ga ρ
    match x with
    | .int i => pure (.int (-i))
    | _ => stuck) := PE.wk (pe_un un_neg h) fun σ H Q ⟨ah, F, N, ρ, hs, p, hs', G, E, q, k⟩ => by
  obtain ⟨x, h1, q1, q⟩ := M.bind_ok q
  cases x <;> first | (cases q; done) | skip
  cases M.pure_ok q
  refine ⟨ah, F, N, ρ, hs, _, _, G, E, q1, fun F1 H1 v1 x1 G1 r1 => ?_⟩
  cases r1
  exact ⟨_, rfl, k F1 H1 _ x1 G1 (.int _)⟩
/-- a if t else b -/
def gIf (t : TM) (ga gb : EM) : EM := fun ρ => do
  let x ← t ρ
  if x = true then ga ρ else gb ρ
theorem se_if (h : ST X c ta) (h1 : SE X a ga) (h2 : SE X b gb) : SE X (.IfExp c a b pos) (gIf ta ga gb) := PE.wk (pe_ifExp h h1 h2) fun σ H Q ⟨ah, F, N, ρ, hs, p, hs', G, E, q, k⟩ => by
  obtain ⟨x, h1, q1, q⟩ := M.bind_ok q
  refine ⟨ah, F, N, ρ, hs, x, h1, G, E, q1, fun F1 H1 x1 G1 => ?_⟩
  cases x with
  | true => exact ⟨ah, F1, N, ρ, h1, p, hs', G1, E.ext G x1, q, fun F2 H2 v x2 G2 r2 => k F2 H2 v (x1.trans G G1 x2) G2 r2⟩
  | false => exact ⟨ah, F1, N, ρ, h1, p, hs', G1, E.ext G x1, q, fun F2 H2 v x2 G2 r2 => k F2 H2 v (x1.trans G G1 x2) G2 r2⟩
/-! ### rows of expressions -/
def gNil : Ev → M (List PV) := fun _ => pure []
def gCons (g : EM) (gs : Ev → M (List PV)) : Ev → M (List PV) := fun ρ => do
  let x ← g ρ
  let xs ← gs ρ
  pure (x :: xs)
theorem sa_nil : SA X [] gNil := PA.wk pa_nil fun σ H Q ⟨ah, F, N, ρ, hs, p, hs', G, E, q, k⟩ => by
  cases M.pure_ok q
  exact k F H _ .refl G .nil
theorem sa_cons (h : SE X e g) (h' : SA X es gs) (hs : starEach (e :: es) X.env = (false, eval e X.env) :: starEach es X.env := by rfl) : SA X (e :: es) (gCons g gs) := PA.wk (pa_cons h h' hs) fun σ H Q ⟨ah, F, N, ρ, hs, p, hs', G, E, q, k⟩ => by
  obtain ⟨x, h1, q1, q⟩ := M.bind_ok q
  obtain ⟨y, h2, q2, q⟩ := M.bind_ok q
  cases M.pure_ok q
  exact ⟨ah, F, N, ρ, hs, x, h1, G, E, q1, fun F1 H1 v1 x1 G1 r1 => ⟨ah, F1, N, ρ, h1, y, _, G1, E.ext G x1, q2, fun F2 H2 v2 x2 G2 r2 => k F2 H2 _ (x1.trans G G1 x2) G2 (.cons (r1.mono (G1.kp x2)) r2)⟩⟩
theorem sab_nil : SAB X [] gNil := PA.wk pa_nil fun σ H Q ⟨ah, F, N, ρ, hs, p, hs', G, E, q, k⟩ => by
  cases M.pure_ok q
  exact k F H _ .refl G .nil
theorem sab_cons (h : SB X e g) (h' : SAB X es gs) (hs : starEach (e :: es) X.env = (false, eval e X.env) :: starEach es X.env := by rfl) : SAB X (e :: es) (gCons g gs) := PA.wk (pa_cons h h' hs) fun σ H Q ⟨ah, F, N, ρ, hs, p, hs', G, E, q, k⟩ => by
  obtain ⟨x, h1, q1, q⟩ := M.bind_ok q
  obtain ⟨y, h2, q2, q⟩ := M.bind_ok q
  cases M.pure_ok q
  exact ⟨ah, F, N, ρ, hs, x, h1, G, E, q1, fun F1 H1 v1 x1 G1 r1 => ⟨ah, F1, N, ρ, h1, y, _, G1, E.ext G x1, q2, fun F2 H2 v2 x2 G2 r2 => k F2 H2 _ (x1.trans G G1 x2) G2 (.cons (r1.ext G1 x2) r2)⟩⟩
def gTup (gs : Ev → M (List PV)) : EM := fun ρ => do
  let xs ← gs ρ
  guardM (xs.length ≤ SZ) (pure (.tup xs))
def gLst (gs : Ev → M (List PV)) : EM := fun ρ => do
  let xs ← gs ρ
  guardM (xs.length ≤ SZ) (pure (.lst xs))
theorem se_tup {k : Nat} (h : SA X es gs) : SE X (.Tuple es k pos) (gTup gs) := PE.wk (pe_tup h) fun σ H Q ⟨ah, F, N, ρ, hs, p, hs', G, E, q, k⟩ => by
  obtain ⟨x, h1, q1, q⟩ := M.bind_ok q
  obtain ⟨hz, q⟩ := guard_ok q
  cases M.pure_ok q
  refine ⟨ah, F, N, ρ, hs, x, _, G, E, q1, fun F1 H1 v1 x1 G1 r1 => ?_⟩
  have z : v1.length ≤ sizeLine := by rw [r1.length, szE]; exact hz
  exact ⟨z, fun a n => new_tup G1 n z r1 fun F2 H2 v x2 G2 r2 => k F2 H2 v (x1.trans G G1 x2) G2 r2⟩
theorem sf_lst (h : SA X es gs) : SF X (.List es pos) (gLst gs) := PE.wk (pe_lst h) fun σ H Q ⟨ah, F, N, ρ, hs, p, hs', G, E, q, k⟩ => by
  obtain ⟨x, h1, q1, q⟩ := M.bind_ok q
  obtain ⟨hz, q⟩ := guard_ok q
  cases M.pure_ok q
  refine ⟨ah, F, N, ρ, hs, x, _, G, E, q1, fun F1 H1 v1 x1 G1 r1 => ?_⟩
  have z : v1.length ≤ sizeLine := by rw [r1.length, szE]; exact hz
  exact ⟨z, fun a n => new_lst G1 n z r1 fun F2 H2 v x2 G2 n2 nf o => k F2 H2 v (x1.trans G G1 x2) G2 (x1.free G n2 (G1.ne n2)) nf o⟩
end
end SL

end
section
namespace SL
open PySem PySem.Spec PyProof.Rows L2
/-! ### subscripts -/
def pIx : PV → PV → M PV
  | .tup l, .int i => liftO (atI l i)
  | .lst l, .int i => liftO (atI l i)
  | .scr l, .int i => liftO ((atI l i).map .int)
  | .hand, .int i => do
    let h ← get
    liftO (atI h i)
  | _, _ => stuck
theorem atI_reps {K : Fg} {ah : Option Addr} {F : Addr → Prop} {H : Hp} {vs : List V} {ps : List PV} {i : Int} {p : PV} (r : Reps K ah F H vs ps) (h : atI ps i = some p) : ∃ v, atI vs i = some v ∧ Rep K ah F H v p := by
  unfold atI at h ⊢
  rw [r.length]
  cases e : ixN ps.length i with
  | none => rw [e] at h; cases h
  | some j =>
    rw [e] at h
    exact r.get h
theorem atI_map {α β : Type} {f : α → β} {l : List α} {i : Int} : atI (l.map f) i = (atI l i).map f := by
  unfold atI
  rw [List.length_map]
  cases e : ixN l.length i with
  | none => rfl
  | some j => show (l.map f)[j]? = (l[j]?).map f; rw [List.getElem?_map]
theorem M.get_ok {h : HS} {r : HS × HS} (e : (get : M HS) h = .ok r) : r = (h, h) := by
  have e : Except.ok (h, h) = .ok r := e
  cases e; rfl
theorem ops_ix {X : Cx} : OpS X (rIx X.K) pIx := fun ah F H hs hs' x y p q z Q G c d e k => by
  cases p with
  | tup l =>
    cases q <;> first | (cases e; done) | skip
    obtain ⟨e1, e2⟩ := M.lift_ok e
    cases e2
    obtain ⟨a, vs, rfl, h, _, r⟩ := c.tup
    obtain ⟨v, e3, r3⟩ := atI_reps r e1
    exact .inr (.inl ⟨a, vs, _, v, rfl, d.int, h, e3, k F H v .refl G r3⟩)
  | lst l =>
    cases q <;> first | (cases e; done) | skip
    obtain ⟨e1, e2⟩ := M.lift_ok e
    cases e2
    obtain ⟨a, vs, rfl, h, _, r⟩ := c.lst
    obtain ⟨v, e3, r3⟩ := atI_reps r e1
    exact .inl ⟨a, vs, _, v, rfl, d.int, .of h, e3, k F H v .refl G r3⟩
  | scr l =>
    cases q <;> first | (cases e; done) | skip
    obtain ⟨e1, e2⟩ := M.lift_ok e
    cases e2
    obtain ⟨a, rfl, h⟩ := c.scr
    rename_i i
    cases e3 : atI l i with
    | none => rw [e3] at e1; cases e1
    | some j =>
      rw [e3] at e1
      cases e1
      exact .inl ⟨a, _, _, .int j, rfl, d.int, h, by rw [atI_map, e3]; rfl, k F H _ .refl G (.int j)⟩
  | hand =>
    cases q <;> first | (cases e; done) | skip
    obtain ⟨h1, hs1, q1, e⟩ := M.bind_ok e
    cases M.get_ok q1
    obtain ⟨e1, e2⟩ := M.lift_ok e
    cases e2
    obtain ⟨a, vs, rfl, _, h, _, r⟩ := c.hand G
    obtain ⟨v, e3, r3⟩ := atI_reps r e1
    exact .inl ⟨a, vs, _, v, rfl, d.int, .of h, e3, k F H v .refl G r3⟩
  | _ => cases e
section
variable {X : Cx} {e a b c : Expr} {es rest : List Expr} {pos p2 : Pos} {g ga gb gc : EM} {gs : Ev → M (List PV)}
theorem se_ix (ha : SB X a ga) (hb : SB X b gb) (hs : PlainIx b) : SE X (.Subscript a b pos) (gBin pIx ga gb) := PE.wk (pe_ix ix_seq ha hb hs) (bin_w ops_ix)
/-! slices -/
abbrev OM := Ev → M (Option Int)
def tSO (K : Fg) (g : OM) : TO := fun σ H Q => ∃ ah F N ρ hs p hs', GI K ah F H hs ∧ ER K ah F H N σ ρ ∧ g ρ hs = .ok (p, hs') ∧
  ∀ F' H', Ext K ah F H F' H' → GI K ah F' H' hs' → Q p H'
abbrev SO (X : Cx) (e : Option Expr) (g : OM) : Prop := PO X e (tSO X.K g)
theorem PO.wk {X : Cx} {e : Option Expr} {t u : TO} (h : PO X e t) (w : ∀ σ H Q, u σ H Q → t σ H Q) : PO X e u := ⟨fun pins s σ H Q I q => h.run pins s σ H Q I (w σ H Q q)⟩
def oNone : OM := fun _ => pure none
def asInt : PV → M Int
  | .int i => pure i
  | _ => stuck
theorem asInt_ok {p : PV} {hs : HS} {r : Int × HS} (h : asInt p hs = .ok r) : p = .int r.1 ∧ r.2 = hs := by
  cases p <;> first | (cases h; done) | skip
  cases M.pure_ok h
  exact ⟨rfl, rfl⟩
def oSome (g : EM) : OM := fun ρ => do
  let x ← g ρ
  let i ← asInt x
  pure (some i)
theorem so_none : SO X none oNone := PO.wk po_none fun σ H Q ⟨ah, F, N, ρ, hs, p, hs', G, E, q, k⟩ => by
  cases M.pure_ok q
  exact k F H .refl G
theorem so_some (h : SB X e g) : SO X (some e) (oSome g) := PO.wk (po_some h) fun σ H Q ⟨ah, F, N, ρ, hs, p, hs', G, E, q, k⟩ => by
  obtain ⟨x, h1, q1, q⟩ := M.bind_ok q
  obtain ⟨i, h2, q2, q⟩ := M.bind_ok q
  obtain ⟨rfl, rfl⟩ := asInt_ok q2
  cases M.pure_ok q
  refine ⟨ah, F, N, ρ, hs, _, _, G, E, q1, fun F1 H1 v1 x1 G1 r1 => ?_⟩
  exact ⟨_, (r1.con (E.ext G x1)).int, k F1 H1 x1 G1⟩
def cut {α : Type} (xs : List α) (lo hi : Option Int) : List α := (xs.drop (HT.sIx xs.length 0 lo)).take (HT.sIx xs.length xs.length hi - HT.sIx xs.length 0 lo)
def pSl : PV → Option Int → Option Int → M PV
  | .tup l, lo, hi => pure (.tup (cut l lo hi))
  | .lst l, lo, hi => pure (.lst (cut l lo hi))
  | .scr l, lo, hi => pure (.lst ((cut l lo hi).map .int))
  | _, _, _ => stuck
def gSl (g : EM) (lo hi : OM) : EM := fun ρ => do
  let x ← g ρ
  let l ← lo ρ
  let h ← hi ρ
  pSl x l h
theorem cut_reps {K : Fg} {ah : Option Addr} {F : Addr → Prop} {H : Hp} {vs : List V} {ps : List PV} {lo hi : Option Int} (r : Reps K ah F H vs ps) : Reps K ah F H (cutV vs lo hi) (cut ps lo hi) := by
  unfold cutV cut
  rw [r.length]
  exact (r.drop _).take _
theorem cutV_map {α : Type} (f : α → V) (l : List α) (lo hi : Option Int) : cutV (l.map f) lo hi = (cut l lo hi).map f := by
  unfold cutV cut
  rw [List.length_map, List.map_take, List.map_drop]
theorem sl_w {ah : Option Addr} {F : Addr → Prop} {H : Hp} {hs hs' : HS} {v : V} {p z : PV} {lo hi : Option Int} {Q : VK} (G : GI X.K ah F H hs) (c : Con X.K ah F H v p) (e : pSl p lo hi hs = .ok (z, hs'))
    (k : ∀ F' H' v, Ext X.K ah F H F' H' → GI X.K ah F' H' hs' → Rep X.K ah F' H' v z → Q v H') : rSlA X.K v lo hi H Q ∨ rSlL X.K v lo hi H Q := by
  cases p with
  | tup l =>
    cases M.pure_ok e
    obtain ⟨a, vs, rfl, h, z, r⟩ := c.tup
    refine .inl ⟨a, vs, rfl, h, fun w => ?_, fun _ a n => ?_⟩
    · refine k F H _ .refl G ?_
      have e : cut l lo hi = l := by
        unfold cut
        rw [← r.length, w.1, w.2, Nat.sub_zero, List.drop_zero, r.length, List.take_length]
      rw [e]
      exact .tup h z r
    · exact new_tup G n (Nat.le_trans (cutV_length _ _ _) z) (cut_reps r) k
  | lst l =>
    cases M.pure_ok e
    obtain ⟨a, vs, rfl, h, z, r⟩ := c.lst
    refine .inr ⟨a, vs, rfl, .of h, fun a n => ?_⟩
    refine new_lst (Q := Q) G n (Nat.le_trans (cutV_length _ _ _) z) (cut_reps r) fun F2 H2 b x2 G2 n2 nf o => ?_
    obtain ⟨u, hu⟩ := o.there
    exact k (fun c => F2 c ∨ c = b) H2 (.ref b) ⟨fun c h => .inl (x2.mono c h), fun c h => h.elim (x2.new c) fun e => .inr (e ▸ n2), x2.keep⟩ (G2.frz hu (G.ne n2)) o.frzn
  | scr l =>
    cases M.pure_ok e
    obtain ⟨a, rfl, h⟩ := c.scr
    refine .inr ⟨a, _, rfl, h, fun a n => ?_⟩
    rw [cutV_map]
    have hz : ((cut l lo hi).map V.int).length ≤ sizeLine := by
      cases c with
      | rep r =>
        cases r with
        | scr _ z =>
          rw [List.length_map]
          refine Nat.le_trans ?_ z
          unfold cut
          rw [List.length_take, List.length_drop]
          omega
      | own o => cases o
    refine new_lst (Q := Q) G n hz (Reps.ints (cut l lo hi)) fun F2 H2 b x2 G2 n2 nf o => ?_
    obtain ⟨u, hu⟩ := o.there
    exact k (fun c => F2 c ∨ c = b) H2 (.ref b) ⟨fun c h => .inl (x2.mono c h), fun c h => h.elim (x2.new c) fun e => .inr (e ▸ n2), x2.keep⟩ (G2.frz hu (G.ne n2)) o.frzn
  | _ => cases e
theorem se_sl {lo hi : Option Expr} {gl gh : OM} (h : SB X e g) (hl : SO X lo gl) (hh : SO X hi gh) : SE X (.Subscript e (.Slice lo hi none p2) pos) (gSl g gl gh) := PE.wk (pe_slice (sl_tupA.or sl_list) h hl hh) fun σ H Q ⟨ah, F, N, ρ, hs, p, hs', G, E, q, k⟩ => by
  obtain ⟨x, h1, q1, q⟩ := M.bind_ok q
  obtain ⟨l, h2, q2, q⟩ := M.bind_ok q
  obtain ⟨u, h3, q3, q⟩ := M.bind_ok q
  refine ⟨ah, F, N, ρ, hs, x, h1, G, E, q1, fun F1 H1 v1 x1 G1 r1 => ?_⟩
  have E1 := E.ext G x1
  refine ⟨ah, F1, N, ρ, h1, l, h2, G1, E1, q2, fun F2 H2 x2 G2 => ?_⟩
  have E2 := E1.ext G1 x2
  refine ⟨ah, F2, N, ρ, h2, u, h3, G2, E2, q3, fun F3 H3 x3 G3 => ?_⟩
  have E3 := E2.ext G2 x3
  have x13 := (x1.trans G G1 x2).trans G G2 x3
  exact sl_w G3 (((r1.ext G1 x2).ext G2 x3).con E3) q fun F4 H4 v x4 G4 r4 => k F4 H4 v (x13.trans G G3 x4) G4 r4

/-! ### calls of builtins -/
inductive Cons (K : Fg) (ah : Option Addr) (F : Addr → Prop) (H : Hp) : List V → List PV → Prop
  | nil : Cons K ah F H [] []
  | cons {v : V} {p : PV} {vs : List V} {ps : List PV} : Con K ah F H v p → Cons K ah F H vs ps → Cons K ah F H (v :: vs) (p :: ps)
theorem RepsB.cons' {K : Fg} {ah : Option Addr} {F N : Addr → Prop} {H : Hp} {σ : L2.St} {ρ : Ev} {vs : List V} {ps : List PV} (E : ER K ah F H N σ ρ) (r : RepsB K ah F H σ ρ vs ps) : Cons K ah F H vs ps := by
  induction r with
  | nil => exact .nil
  | cons r _ ih => exact .cons (r.con E) ih
def CallS (X : Cx) (r : List V → Hp → VK → Prop) (fp : List PV → M PV) : Prop := ∀ (ah : Option Addr) (F : Addr → Prop) (H : Hp) (hs hs' : HS) (xs : List V) (ps : List PV) (z : PV) (Q : VK), GI X.K ah F H hs → Cons X.K ah F H xs ps → fp ps hs = .ok (z, hs') →
  (∀ F' H' v, Ext X.K ah F H F' H' → GI X.K ah F' H' hs' → Rep X.K ah F' H' v z → Q v H') → r xs H Q
def CallF (X : Cx) (r : List V → Hp → VK → Prop) (fp : List PV → M PV) : Prop := ∀ (ah : Option Addr) (F : Addr → Prop) (H : Hp) (hs hs' : HS) (xs : List V) (ps : List PV) (z : PV) (Q : VK), GI X.K ah F H hs → Cons X.K ah F H xs ps → fp ps hs = .ok (z, hs') →
  (∀ F' H' a, Ext X.K ah F H F' H' → GI X.K ah F' H' hs' → H a = none → ¬ F' a → Own X.K ah F' H' a z → Q (.ref a) H') → r xs H Q
def gB (fp : List PV → M PV) (gs : Ev → M (List PV)) : EM := fun ρ => do
  let xs ← gs ρ
  fp xs
theorem se_B {r : List V → Hp → VK → Prop} {fp : List PV → M PV} (ho : CallS X r fp) (h : PE X e (tCB r (tSAB X.K gs))) : SE X e (gB fp gs) := PE.wk h fun σ H Q ⟨ah, F, N, ρ, hs, p, hs', G, E, q, k⟩ => by
  obtain ⟨x, h1, q1, q⟩ := M.bind_ok q
  refine ⟨ah, F, N, ρ, hs, x, h1, G, E, q1, fun F1 H1 v1 x1 G1 r1 => ?_⟩
  exact ho ah F1 H1 h1 hs' v1 x p Q G1 (r1.cons' (E.ext G x1)) q fun F2 H2 v x2 G2 r2 => k F2 H2 v (x1.trans G G1 x2) G2 r2
theorem sf_B {r : List V → Hp → VK → Prop} {fp : List PV → M PV} (ho : CallF X r fp) (h : PE X e (tCB r (tSAB X.K gs))) : SF X e (gB fp gs) := PE.wk h fun σ H Q ⟨ah, F, N, ρ, hs, p, hs', G, E, q, k⟩ => by
  obtain ⟨x, h1, q1, q⟩ := M.bind_ok q
  refine ⟨ah, F, N, ρ, hs, x, h1, G, E, q1, fun F1 H1 v1 x1 G1 r1 => ?_⟩
  exact ho ah F1 H1 h1 hs' v1 x p Q G1 (r1.cons' (E.ext G x1)) q fun F2 H2 a x2 G2 n nf o => k F2 H2 a (x1.trans G G1 x2) G2 (x1.free G n (G1.ne n)) nf o

def pLen : List PV → M PV
  | [.tup l] => pure (.int l.length)
  | [.lst l] => pure (.int l.length)
  | [.scr l] => pure (.int l.length)
  | _ => stuck
theorem cs_len : CallS X (fun xs H Q => ∃ p ys, xs = [.ref p] ∧ (SqL X.K H p ys ∨ SqT X.K H p ys) ∧ Q (.int ys.length) H) pLen := fun ah F H hs hs' xs ps z Q G c e k => by
  unfold pLen at e
  split at e
  · cases M.pure_ok e
    cases c with | cons c t => cases t; obtain ⟨a, vs, rfl, h, _, r⟩ := c.tup; exact ⟨a, vs, rfl, .inr h, by rw [r.length]; exact k F H _ .refl G (.int _)⟩
  · cases M.pure_ok e
    cases c with | cons c t => cases t; obtain ⟨a, vs, rfl, h, _, r⟩ := c.lst; exact ⟨a, vs, rfl, .inl (.of h), by rw [r.length]; exact k F H _ .refl G (.int _)⟩
  · cases M.pure_ok e
    cases c with | cons c t => cases t; obtain ⟨a, rfl, h⟩ := c.scr; exact ⟨a, _, rfl, .inl h, by rw [List.length_map]; exact k F H _ .refl G (.int _)⟩
  · cases e
def pAbs : List PV → M PV
  | [.int i] => pure (.int (if i < 0 then -i else i))
  | _ => stuck
theorem cs_abs : CallS X (fun xs H Q => ∃ i, xs = [.int i] ∧ Q (.int (if i < 0 then -i else i)) H) pAbs := fun ah F H hs hs' xs ps z Q G c e k => by
  unfold pAbs at e
  split at e
  · cases M.pure_ok e
    cases c with | cons c t => cases t; rw [c.int]; exact ⟨_, rfl, k F H _ .refl G (.int _)⟩
  · cases e
def pInt : List PV → M PV
  | [.int i] => pure (.int i)
  | [.bl b] => pure (.int (if b then 1 else 0))
  | _ => stuck
theorem cs_int : CallS X (fun xs H Q => (∃ i, xs = [.int i] ∧ Q (.int i) H) ∨ ∃ k, xs = [.bl k] ∧ Q (.int (if k then 1 else 0)) H) pInt := fun ah F H hs hs' xs ps z Q G c e k => by
  unfold pInt at e
  split at e
  · cases M.pure_ok e
    cases c with | cons c t => cases t; rw [c.int]; exact .inl ⟨_, rfl, k F H _ .refl G (.int _)⟩
  · cases M.pure_ok e
    cases c with | cons c t => cases t; rw [c.bl]; exact .inr ⟨_, rfl, k F H _ .refl G (.int _)⟩
  · cases e
def pMax2 : List PV → M PV
  | [.int i, .int j] => pure (.int (if j > i then j else i))
  | _ => stuck
def pMin2 : List PV → M PV
  | [.int i, .int j] => pure (.int (if j < i then j else i))
  | _ => stuck
theorem cs_max2 : CallS X (fun xs H Q => ∃ i j, xs = [.int i, .int j] ∧ Q (.int (if j > i then j else i)) H) pMax2 := fun ah F H hs hs' xs ps z Q G c e k => by
  unfold pMax2 at e
  split at e
  · cases M.pure_ok e
    cases c with | cons c t => cases t with | cons d t => cases t; rw [c.int, d.int]; exact ⟨_, _, rfl, k F H _ .refl G (.int _)⟩
  · cases e
theorem cs_min2 : CallS X (fun xs H Q => ∃ i j, xs = [.int i, .int j] ∧ Q (.int (if j < i then j else i)) H) pMin2 := fun ah F H hs hs' xs ps z Q G c e k => by
  unfold pMin2 at e
  split at e
  · cases M.pure_ok e
    cases c with | cons c t => cases t with | cons d t => cases t; rw [c.int, d.int]; exact ⟨_, _, rfl, k F H _ .refl G (.int _)⟩
  · cases e
def pTuple : List PV → M PV
  | [.tup l] => pure (.tup l)
  | [.lst l] => pure (.tup l)
  | _ => stuck
theorem cs_tuple : CallS X (fun xs H Q => ∃ p ys, xs = [.ref p] ∧ ((SqL X.K H p ys ∧ ∀ l, H l = none → Q (.ref l) (upd H l (.tup ys))) ∨ (SqT X.K H p ys ∧ Q (.ref p) H))) pTuple := fun ah F H hs hs' xs ps z Q G c e k => by
  unfold pTuple at e
  split at e
  · cases M.pure_ok e
    cases c with | cons c t => cases t; obtain ⟨a, vs, rfl, h, z, r⟩ := c.tup; exact ⟨a, vs, rfl, .inr ⟨h, k F H _ .refl G (.tup h z r)⟩⟩
  · cases M.pure_ok e
    cases c with | cons c t => cases t; obtain ⟨a, vs, rfl, h, z, r⟩ := c.lst; exact ⟨a, vs, rfl, .inl ⟨.of h, fun l n => new_tup G n z r k⟩⟩
  · cases e
def pList : List PV → M PV
  | [.tup l] => pure (.lst l)
  | [.lst l] => pure (.lst l)
  | _ => stuck
theorem cf_list : CallF X (fun xs H Q => ∃ p ys, xs = [.ref p] ∧ (SqL X.K H p ys ∨ SqT X.K H p ys) ∧ ∀ l, H l = none → Q (.ref l) (upd H l (.lst ys))) pList := fun ah F H hs hs' xs ps z Q G c e k => by
  unfold pList at e
  split at e
  · cases M.pure_ok e
    cases c with | cons c t => cases t; obtain ⟨a, vs, rfl, h, z, r⟩ := c.tup; exact ⟨a, vs, rfl, .inr h, fun l n => new_lst G n z r k⟩
  · cases M.pure_ok e
    cases c with | cons c t => cases t; obtain ⟨a, vs, rfl, h, z, r⟩ := c.lst; exact ⟨a, vs, rfl, .inl (.of h), fun l n => new_lst G n z r k⟩
  · cases e
/-- all, any of a list of truth values -/
def bls? : List PV → Option (List Bool)
  | [] => some []
  | .bl i :: r => (bls? r).map (i :: ·)
  | _ => none
theorem bls?_eq : ∀ {ps : List PV} {ns : List Bool}, bls? ps = some ns → ps = ns.map PV.bl
  | [], _, h => by cases h; rfl
  | p :: r, ns, h => by
    cases p with
    | bl i =>
      have h : (bls? r).map (i :: ·) = some ns := h
      cases e : bls? r with
      | none => rw [e] at h; cases h
      | some ms =>
        rw [e] at h; cases h
        rw [bls?_eq e]; rfl
    | _ => cases h
theorem Reps.bls_of {K : Fg} {ah : Option Addr} {F : Addr → Prop} {H : Hp} : ∀ {vs : List V} {ns : List Bool}, Reps K ah F H vs (ns.map PV.bl) → vs = ns.map V.bl
  | _, [], .nil => rfl
  | _, n :: r, .cons h t => by
    cases h
    rw [Reps.bls_of t]; rfl
def pAll : List PV → M PV
  | [.lst l] => do
    let bs ← liftO (bls? l)
    pure (.bl (bs.all id))
  | _ => stuck
def pAny : List PV → M PV
  | [.lst l] => do
    let bs ← liftO (bls? l)
    pure (.bl (bs.any id))
  | _ => stuck
theorem cs_all : CallS X (rAll X.K) pAll := fun ah F H hs hs' xs ps z Q G c e k => by
  unfold pAll at e
  split at e
  · obtain ⟨bs, h1, q1, e'⟩ := M.bind_ok e
    obtain ⟨e1, e2⟩ := M.lift_ok q1
    cases e2
    cases M.pure_ok e'
    rw [bls?_eq e1] at c
    cases c with | cons c t => cases t; obtain ⟨a, vs, rfl, h, z, r⟩ := c.lst; rw [r.bls_of] at h; exact ⟨a, _, rfl, .of h, k F H _ .refl G (.bl _)⟩
  · cases e
theorem cs_any : CallS X (rAny X.K) pAny := fun ah F H hs hs' xs ps z Q G c e k => by
  unfold pAny at e
  split at e
  · obtain ⟨bs, h1, q1, e'⟩ := M.bind_ok e
    obtain ⟨e1, e2⟩ := M.lift_ok q1
    cases e2
    cases M.pure_ok e'
    rw [bls?_eq e1] at c
    cases c with | cons c t => cases t; obtain ⟨a, vs, rfl, h, z, r⟩ := c.lst; rw [r.bls_of] at h; exact ⟨a, _, rfl, .of h, k F H _ .refl G (.bl _)⟩
  · cases e
def pSum : List PV → M PV
  | [.lst l] => do
    let bs ← liftO (ints? l)
    pure (.int bs.sum)
  | _ => stuck
theorem cs_sum : CallS X (rSum X.K) pSum := fun ah F H hs hs' xs ps z Q G c e k => by
  unfold pSum at e
  split at e
  · obtain ⟨bs, h1, q1, e'⟩ := M.bind_ok e
    obtain ⟨e1, e2⟩ := M.lift_ok q1
    cases e2
    cases M.pure_ok e'
    rw [ints?_eq e1] at c
    cases c with | cons c t => cases t; obtain ⟨a, vs, rfl, h, z, r⟩ := c.lst; rw [r.ints_of] at h; exact ⟨a, _, rfl, .of h, k F H _ .refl G (.int _)⟩
  · cases e
/-! ### isinstance -/
inductive Cl where
  | int | bool | str | tuple | list | dict
def Cl.name : Cl → String
  | .int => "int" | .bool => "bool" | .str => "str" | .tuple => "tuple" | .list => "list" | .dict => "dict"
def tyN : PV → Option String
  | .non => some "NoneType"
  | .bl _ => some "bool"
  | .int _ => some "int"
  | .str _ => some "str"
  | .tup _ => some "tuple"
  | .lst _ => some "list"
  | .dK _ => some "dict"
  | .dT _ => some "dict"
  | _ => none
def isA : Cl → PV → Bool
  | .int, .int _ => true
  | .int, .bl _ => true
  | .bool, .bl _ => true
  | .str, .str _ => true
  | .tuple, .tup _ => true
  | .list, .lst _ => true
  | .dict, .dK _ => true
  | .dict, .dT _ => true
  | _, _ => false
theorem kit_isA {c : Cl} {p : PV} {n : String} (h : tyN p = some n) : kitB n c.name = some (isA c p) := by
  cases p <;> cases h <;> cases c <;> first | (show kitB _ _ = some true; decide +kernel) | (show kitB _ _ = some false; decide +kernel)
theorem tyX_con {K : Fg} {ah : Option Addr} {F : Addr → Prop} {H : Hp} {v : V} {p : PV} {n : String} (c : Con K ah F H v p) (h : tyN p = some n) : TyX K H v (.type n) := by
  cases c with
  | rep r =>
    cases r with
    | non => cases h; exact .base .non
    | bl b => cases h; exact .base (.bl b)
    | int b => cases h; exact .base (.int b)
    | str b => cases h; exact .base (.str b)
    | tup s z r =>
      cases h
      rcases s with (s | ⟨o, s⟩) | ⟨o, its, m, s, hc, _⟩
      · exact .base (.tup s)
      · exact .fTuple s
      · exact .kTuple s hc
    | lst f s z r => cases h; exact .base (.lst s)
    | dK f s z e r => cases h; exact .base (.dK s)
    | dT f s z e r => cases h; exact .base (.dT s)
    | _ => cases h
  | own o =>
    cases o with
    | lst s z r => cases h; exact .base (.lst s)
    | dK s z e r => cases h; exact .base (.dK s)
    | dT s z e r => cases h; exact .base (.dT s)
def isiP (cs : List Cl) : PV → M PV
  | .ty _ => stuck
  | .hand => stuck
  | .scr _ => stuck
  | x => pure (.bl (cs.any fun c => isA c x))
def gIsi (cs : List Cl) (g : EM) : EM := fun ρ => do
  let x ← g ρ
  isiP cs x
theorem isiP_ok {cs : List Cl} {x : PV} {hs : HS} {r : PV × HS} (h : isiP cs x hs = .ok r) : (∃ n, tyN x = some n) ∧ r = (.bl (cs.any fun c => isA c x), hs) := by
  cases x <;> first | (cases h; done) | exact ⟨⟨_, rfl⟩, M.pure_ok h⟩
theorem se_isi {c : Cl} {p pos : Pos} (ha : SB X a g) (hc : PE X b (tC (.ty c.name))) (hm : X.mg "isinstance" = none) (hg : Gl X "isinstance" := by rfl) (h1 : starEach [a, b] X.env = (false, eval a X.env) :: starEach [b] X.env := by rfl) (h2 : starEach [b] X.env = (false, eval b X.env) :: starEach [] X.env := by rfl)
    (hpl : (backTo pos (starEach [b] X.env)).any (·.1) = false := by rfl) : SE X (.Call (.Name "isinstance" p) [a, b] [] pos) (gIsi [c] g) := PE.wk (pe_callB call_isi hg hm (by decide +kernel) (pa_cons ha (pa_cons hc pa_nil h2) h1) (by decide) (by decide) h1 hpl) fun σ H Q ⟨ah, F, N, ρ, hs, p, hs', G, E, q, k⟩ => by
  obtain ⟨x, h1, q1, q⟩ := M.bind_ok q
  obtain ⟨⟨n, hn⟩, q⟩ := isiP_ok q
  cases q
  refine ⟨ah, F, N, ρ, hs, x, _, G, E, q1, fun F1 H1 v1 x1 G1 r1 => ?_⟩
  refine ⟨v1, _, _, _, _, rfl, .ty _, tyX_con (r1.con (E.ext G x1)) hn, kit_ty (kit_isA hn), ?_⟩
  have := k F1 H1 _ x1 G1 (.bl _)
  simpa using this
theorem kit_any {K : Fg} {p : PV} {n : String} (h : tyN p = some n) : ∀ cs : List Cl, PySem.W.kitAny K (.type n) (cs.map fun c => Value.type c.name) = some (cs.any fun c => isA c p)
  | [] => kitAny_nil
  | c :: cs => by
    refine kitAny_cons (b := isA c p) (kit_ty (kit_isA h)) (fun e => ?_) fun e => ?_
    · rw [List.any_cons, e, Bool.false_or]; exact kit_any h cs
    · rw [List.any_cons, e, Bool.true_or]
/-- isinstance(x, (T1, T2)) -/
theorem se_isi2 {c1 c2 : Cl} {b1 b2 : Expr} {kk : Nat} {p pos pt : Pos} (ha : SB X a g) (hc1 : PE X b1 (tC (.ty c1.name))) (hc2 : PE X b2 (tC (.ty c2.name))) (hm : X.mg "isinstance" = none) (hg : Gl X "isinstance" := by rfl)
    (h1 : starEach [a, .Tuple [b1, b2] kk pt] X.env = (false, eval a X.env) :: starEach [.Tuple [b1, b2] kk pt] X.env := by rfl) (h3 : starEach [b1, b2] X.env = (false, eval b1 X.env) :: starEach [b2] X.env := by rfl) (h4 : starEach [b2] X.env = (false, eval b2 X.env) :: starEach [] X.env := by rfl)
    (hpl : (backTo pos (starEach [.Tuple [b1, b2] kk pt] X.env)).any (·.1) = false := by rfl) : SE X (.Call (.Name "isinstance" p) [a, .Tuple [b1, b2] kk pt] [] pos) (gIsi [c1, c2] g) :=
  PE.wk (pe_callB call_isiT hg hm (by decide +kernel) (pa_cons ha (pa_cons (pe_tup (pa_cons hc1 (pa_cons hc2 pa_nil h4) h3)) pa_nil rfl) h1) (by decide) (by decide) h1 hpl) fun σ H Q ⟨ah, F, N, ρ, hs, p, hs', G, E, q, k⟩ => by
  obtain ⟨x, h1, q1, q⟩ := M.bind_ok q
  obtain ⟨⟨n, hn⟩, q⟩ := isiP_ok q
  cases q
  refine ⟨ah, F, N, ρ, hs, x, _, G, E, q1, fun F1 H1 v1 x1 G1 r1 => ?_⟩
  refine ⟨by rw [szE]; show 2 ≤ SZ; decide, fun a na => ?_⟩
  have x2 : Ext X.K ah F1 H1 F1 (upd H1 a (.tup [.ty c1.name, .ty c2.name])) := .laid na
  have G2 := G1.laid (o := .tup [.ty c1.name, .ty c2.name]) na
  refine ⟨v1, a, _, _, _, _, rfl, upd_same, .cons (.ty _) (.cons (.ty _) .nil), tyX_con ((r1.ext G1 x2).con ((E.ext G x1).ext G1 x2)) hn, kit_any hn [c1, c2], ?_⟩
  exact k F1 _ _ (x1.trans G G1 x2) G2 (.bl _)
end
end SL

end
section
namespace SL
open PySem PySem.Spec PyProof.Rows L2
/-! ### defs -/
def spM (K : Fg) (n : Nat) (m : List PV → M PV) : Sp := fun vs H Q _ => vs.length = n ∧ ∃ ah F ps hs p hs', GI K ah F H hs ∧ Reps K ah F H vs ps ∧ m ps hs = .ok (p, hs') ∧
  ∀ F' H' v, Ext K ah F H F' H' → GI K ah F' H' hs' → Rep K ah F' H' v p → Q v H'
/-- a def that the walk knows: by its name, n parameters, level k, the mirror m -/
def Known (P : Program) (w : World) (K : Fg) (mg : Str → Option Value) (base : Heap) (x : Str) (n k : Nat) (m : List PV → M PV) : Prop :=
  ∃ f fd ps, mg x = some (.ref f) ∧ PySem.W.keepIn K (.ref f) = true ∧ L2.Binds K fd ps [] ∧ FnOk P w K mg base CX0 k f fd ps (spM K n m)
section
variable {X : Cx} {e a b c : Expr} {es rest : List Expr} {p pos : Pos} {g ga gb gc : EM} {gs : Ev → M (List PV)} {x : Str} {n k : Nat} {m : List PV → M PV}
theorem len_sa (h : Nat → Prop) {ah : Option Addr} {F : Addr → Prop} {H : Hp} {vs : List V} {ps : List PV} (r : Reps X.K ah F H vs ps) : vs.length = ps.length := r.length
theorem se_call (h : Known X.prog X.w X.K X.mg X.base x n k m) (hr : Room k X.A) (ha : SA X (e :: es) gs) (hn : ∀ ρ hs ps hs', gs ρ hs = .ok (ps, hs') → ps.length = n) (hg : Gl X x := by rfl) (hdb : (x == ("__debug__" : Str)) = false := by decide)
    (he : starEach (e :: es) X.env = (false, eval e X.env) :: starEach es X.env := by rfl) (hpl : (backTo pos (starEach es X.env)).any (·.1) = false := by rfl) : SE X (.Call (.Name x p) (e :: es) [] pos) (gB m gs) := by
  obtain ⟨f, fd, ps, hm, hk, hb, F⟩ := h
  refine PE.wk (pe_call F hr hg hm hk hb .nil pass0 ha hdb he hpl) fun σ H Q ⟨ah, F, N, ρ, hs, p, hs', G, E, q, k⟩ => ?_
  obtain ⟨x, h1, q1, q⟩ := M.bind_ok q
  refine ⟨ah, F, N, ρ, hs, x, h1, G, E, q1, fun F1 H1 v1 x1 G1 r1 => ?_⟩
  refine ⟨?_, ah, F1, x, h1, p, hs', G1, ?_, q, fun F2 H2 v x2 G2 r2 => k F2 H2 v (x1.trans G G1 x2) G2 r2⟩
  · rw [List.append_nil, r1.length]; exact hn _ _ _ _ q1
  · rw [List.append_nil]; exact r1
theorem se_call0 (h : Known X.prog X.w X.K X.mg X.base x 0 k m) (hr : Room k X.A) (hg : Gl X x := by rfl) (hdb : (x == ("__debug__" : Str)) = false := by decide) : SE X (.Call (.Name x p) [] [] pos) (fun _ => m []) := by
  obtain ⟨f, fd, ps, hm, hk, hb, F⟩ := h
  refine PE.wk (pe_call0 F hr hg hm hk hb .nil pass0 hdb) fun σ H Q ⟨ah, F, N, ρ, hs, p, hs', G, E, q, k⟩ => ?_
  exact ⟨rfl, ah, F, [], hs, p, hs', G, .nil, q, k⟩
/-- how many a row of expressions gives -/
def Rows (gs : Ev → M (List PV)) (n : Nat) : Prop := ∀ ρ hs ps hs', gs ρ hs = .ok (ps, hs') → ps.length = n
theorem rows_nil : Rows gNil 0 := fun _ _ _ _ q => by cases M.pure_ok q; rfl
theorem rows_cons (h : Rows gs n) : Rows (gCons g gs) (n + 1) := fun _ _ _ _ q => by
  obtain ⟨x, h1, q1, q⟩ := M.bind_ok q
  obtain ⟨y, h2, q2, q⟩ := M.bind_ok q
  cases M.pure_ok q
  exact congrArg (· + 1) (h _ _ _ _ q2)
end

/-! ### targets -/
abbrev GM := PV → Ev → M Ev
abbrev GMs := List PV → Ev → M Ev
def tSG (K : Fg) (g : GM) (is : List Nat) : TG := fun v σ H Q => ∃ ah F N ρ hs p ρ' hs', GI K ah F H hs ∧ ER K ah F H N σ ρ ∧ Rep K ah F H v p ∧ g p ρ hs = .ok (ρ', hs') ∧
  ∀ σ', ER K ah F H N σ' ρ' → (∀ vs : List Nat, (∀ i ∈ is, i ∈ vs) → L2.wipe σ' vs = L2.wipe σ vs) → hs' = hs → Q σ' H
def tSGs (K : Fg) (g : GMs) (is : List Nat) : TGs := fun v σ H Q => ∃ ah F N ρ hs p ρ' hs', GI K ah F H hs ∧ ER K ah F H N σ ρ ∧ Reps K ah F H v p ∧ g p ρ hs = .ok (ρ', hs') ∧
  ∀ σ', ER K ah F H N σ' ρ' → (∀ vs : List Nat, (∀ i ∈ is, i ∈ vs) → L2.wipe σ' vs = L2.wipe σ vs) → hs' = hs → Q σ' H
abbrev SG (X : Cx) (e : Expr) (g : GM) (is : List Nat) : Prop := PG X e (tSG X.K g is)
abbrev SGs (X : Cx) (e : List Expr) (g : GMs) (is : List Nat) : Prop := PGs X e (tSGs X.K g is)
theorem PG.wk {X : Cx} {e : Expr} {t u : TG} (h : PG X e t) (w : ∀ v σ H Q, u v σ H Q → t v σ H Q) : PG X e u := ⟨fun pins s σ H v x Q I r q => h.run pins s σ H v x Q I r (w v σ H Q q)⟩
theorem PGs.wk {X : Cx} {e : List Expr} {t u : TGs} (h : PGs X e t) (w : ∀ v σ H Q, u v σ H Q → t v σ H Q) : PGs X e u := ⟨fun pins s σ H v x Q I r q => h.run pins s σ H v x Q I r (w v σ H Q q)⟩
def tgName (i : Nat) : GM := fun p ρ => pure (ρ.set i (.fz p))
theorem wipe_set {σ : L2.St} {i : Nat} {v : Option V} : ∀ {vs : List Nat}, i ∈ vs → L2.wipe (σ.set i v) vs = L2.wipe σ vs
  | j :: vs, h => by
    show (L2.wipe (σ.set i v) vs).set j none = (L2.wipe σ vs).set j none
    by_cases hj : i ∈ vs
    · rw [wipe_set hj]
    · have e : j = i := by
        rcases List.mem_cons.mp h with e | e
        · exact e.symm
        · exact absurd e hj
      subst e
      have : ∀ (σ : L2.St) (vs : List Nat), j ∉ vs → L2.wipe (σ.set j v) vs = (L2.wipe σ vs).set j v := by
        intro σ vs
        induction vs with
        | nil => intro _; rfl
        | cons k vs ih =>
          intro hk
          show (L2.wipe (σ.set j v) vs).set k none = ((L2.wipe σ vs).set k none).set j v
          rw [ih (fun z => hk (List.mem_cons_of_mem _ z)), List.set_comm]
          exact fun z => hk (z ▸ List.mem_cons_self)
      rw [this σ vs hj, List.set_set]
theorem sg_name {X : Cx} {i : Nat} {x : Str} {pos : Pos} (h : PG X (.Name x pos) (gName i)) : SG X (.Name x pos) (tgName i) [i] := PG.wk h fun v σ H Q ⟨ah, F, N, ρ, hs, p, ρ', hs', G, E, r, q, k⟩ => by
  cases M.pure_ok q
  exact k _ (E.setF r) (fun vs h => wipe_set (h i List.mem_cons_self)) rfl
def tgNil : GMs := fun ps ρ => match ps with
  | [] => pure ρ
  | _ => stuck
def tgCons (g : GM) (gs : GMs) : GMs := fun ps ρ => match ps with
  | p :: ps => do
    let ρ1 ← g p ρ
    gs ps ρ1
  | _ => stuck
theorem sgs_nil {X : Cx} : SGs X [] tgNil [] := PGs.wk pgs_nil fun v σ H Q ⟨ah, F, N, ρ, hs, p, ρ', hs', G, E, r, q, k⟩ => by
  cases r with
  | nil =>
    cases M.pure_ok q
    exact ⟨rfl, k _ E (fun _ _ => rfl) rfl⟩
  | cons => cases q
theorem sgs_cons {X : Cx} {e : Expr} {es : List Expr} {g : GM} {gs : GMs} {i1 i2 : List Nat} (h1 : SG X e g i1) (h2 : SGs X es gs i2) (hs : (assignEach (e :: es) X.env).map (·.2) = assign e X.env :: (assignEach es X.env).map (·.2) := by rfl) : SGs X (e :: es) (tgCons g gs) (i1 ++ i2) :=
  PGs.wk (pgs_cons h1 h2 hs) fun v σ H Q ⟨ah, F, N, ρ, hs, p, ρ', hs', G, E, r, q, k⟩ => by
    cases r with
    | nil => cases q
    | cons r rs =>
      obtain ⟨ρ1, h1, q1, q2⟩ := M.bind_ok q
      refine ⟨_, _, rfl, ah, F, N, ρ, hs, _, ρ1, h1, G, E, r, q1, fun σ1 E1 w1 e1 => ?_⟩
      subst e1
      refine ⟨ah, F, N, ρ1, _, _, ρ', hs', G, E1, rs, q2, fun σ2 E2 w2 e2 => ?_⟩
      exact k σ2 E2 (fun vs h => (w2 vs fun i hi => h i (List.mem_append_right _ hi)).trans (w1 vs fun i hi => h i (List.mem_append_left _ hi))) e2
def tgTup (n : Nat) (gs : GMs) : GM := fun p ρ => match p with
  | .tup l => guardM (l.length = n) (gs l ρ)
  | _ => stuck
theorem sg_tup {X : Cx} {es : List Expr} {k n : Nat} {pos : Pos} {gs : GMs} {is : List Nat} (hc : X.calm = true) (h : SGs X es gs is) (hn : (assignEach es X.env).length = n := by rfl) (hst : (assignEach es X.env).findIdx? (·.1) = none := by rfl) : SG X (.Tuple es k pos) (tgTup n gs) is :=
  PG.wk (pg_tup hc h hn hst) fun v σ H Q ⟨ah, F, N, ρ, hs, p, ρ', hs', G, E, r, q, k⟩ => by
    cases p <;> first | (cases q; done) | skip
    obtain ⟨e, q⟩ := guard_ok q
    cases r with
    | tup hq z r => exact ⟨_, _, rfl, hq, r.length.trans e, ah, F, N, ρ, hs, _, ρ', hs', G, E, r, q, k⟩

/-! ### walks -/
abbrev IM := Ev → M (List PV)
structure ItW (K : Fg) (ah : Option Addr) (F : Addr → Prop) (H : Hp) (J : It) (ps : List PV) : Prop where
  goes : ∀ i F1 H1, Kp K F H F1 H1 → i < ps.length → J.go i H1
  stops : ∀ F1 H1, Kp K F H F1 H1 → J.stop ps.length H1
  yields : ∀ i F1 H1 hs x H2, Kp K F H F1 H1 → GI K ah F1 H1 hs → i < ps.length → J.yld i H1 x H2 → ∃ p, ps[i]? = some p ∧ Ext K ah F1 H1 F1 H2 ∧ GI K ah F1 H2 hs ∧ Rep K ah F1 H2 x p
def tSI (K : Fg) (g : IM) : TI := fun σ H R => ∃ ah F N ρ hs ps hs', GI K ah F H hs ∧ ER K ah F H N σ ρ ∧ g ρ hs = .ok (ps, hs') ∧
  ∀ F' H' J, Ext K ah F H F' H' → GI K ah F' H' hs' → ItW K ah F' H' J ps → ps.length ≤ sizeLine → R J H'
abbrev SI (X : Cx) (tg e : Expr) (g : IM) : Prop := PI X tg e (tSI X.K g)
theorem PI.wk {X : Cx} {tg e : Expr} {t u : TI} (h : PI X tg e t) (w : ∀ σ H Q, u σ H Q → t σ H Q) : PI X tg e u := ⟨fun pins s σ H Q I q => h.run pins s σ H Q I (w σ H Q q)⟩
section
variable {K : Fg} {ah : Option Addr} {F : Addr → Prop} {H : Hp} {a : Addr} {vs : List V} {ps : List PV}
theorem itw_list (f : F a) (h : H a = some (.lst vs)) (r : Reps K ah F H vs ps) : ItW K ah F H (Itl K a) ps := by
  refine ⟨fun i F1 H1 kp hi => ?_, fun F1 H1 kp => ?_, fun i F1 H1 hs x H2 kp g hi y => ?_⟩
  · have h1 : i < vs.length := by rw [r.length]; exact hi
    exact ⟨vs, vs[i], .of (kp.keep _ _ f h), by simp [h1]⟩
  · exact ⟨vs, .of (kp.keep _ _ f h), by rw [r.length]; exact Nat.le_refl _⟩
  · obtain ⟨e, y⟩ := y
    subst e
    obtain ⟨p, h1, h2⟩ := (r.mono kp).getV (y vs (.of (kp.keep _ _ f h)))
    exact ⟨p, h1, .refl, g, h2⟩
theorem itw_tup (h : SqT K H a vs) (r : Reps K ah F H vs ps) : ItW K ah F H (Itt K a) ps := by
  refine ⟨fun i F1 H1 kp hi => ?_, fun F1 H1 kp => ?_, fun i F1 H1 hs x H2 kp g hi y => ?_⟩
  · have h1 : i < vs.length := by rw [r.length]; exact hi
    exact ⟨vs, vs[i], kp.tup _ _ h, by simp [h1]⟩
  · exact ⟨vs, kp.tup _ _ h, by rw [r.length]; exact Nat.le_refl _⟩
  · obtain ⟨e, y⟩ := y
    subst e
    obtain ⟨p, h1, h2⟩ := (r.mono kp).getV (y vs (kp.tup _ _ h))
    exact ⟨p, h1, .refl, g, h2⟩
theorem itw_range {lo : Int} {n : Nat} : ItW K ah F H (Itr lo n) ((List.range n).map fun (i : Nat) => PV.int (lo + i)) := by
  refine ⟨fun i F1 H1 kp hi => ?_, fun F1 H1 kp => ?_, fun i F1 H1 hs x H2 kp g hi y => ?_⟩
  · have h : i < n := by simpa using hi
    exact h
  · show n ≤ _
    simp
  · obtain ⟨e, y⟩ := y
    subst e y
    have hi : i < n := by simpa using hi
    exact ⟨.int (lo + i), by simp [hi], .refl, g, .int _⟩
end
/-- a list, a tuple -/
def iSeq (g : EM) : IM := fun ρ => do
  let x ← g ρ
  match x with
  | .tup l => pure l
  | .lst l => pure l
  | _ => stuck
def iSeqR (K : Fg) (tl : TE) : TI := fun σ H R => tl σ H fun x H1 => ∃ a, x = .ref a ∧ ((∃ xs, SqL K H1 a xs ∧ R (Itl K a) H1) ∨ (∃ xs, SqT K H1 a xs ∧ R (Itt K a) H1))
theorem pi_seq {X : Cx} {tg l : Expr} {tl : TE} (hl : PE X l tl) : PI X tg l (iSeqR X.K tl) := by
  refine ⟨fun pins s σ H R I h => ?_⟩
  refine thn (hl.run pins s σ H _ I h) fun v s1 ⟨x, H1, I1, r1, q1⟩ => ?_
  obtain ⟨a, e, q⟩ := q1
  subst e
  cases r1
  have fr : ∀ b, b ∈ [s1.heap.objs.size] → FpOk X pins H1 b := fun b hb => by
    have e : b = s1.heap.objs.size := by simpa using hb
    subst e
    exact I1.fpOk (Nat.le_refl _) (I1.hok.fresh (Nat.le_refl _))
  rcases q with ⟨xs, hq, q⟩ | ⟨xs, hq, q⟩
  · obtain ⟨its, rv, p, hz⟩ := I1.list hq
    refine wpAny_pyIter_list p.isList ?_
    exact ⟨s1.heap.objs.size, [s1.heap.objs.size], _, _, H1, rfl, I1.kept (t' := s1.toks) fun b o e => Heap.get?_push_of_some _ e, turn_list a _, ⟨_, Heap.get?_push_size _ rfl, rfl, rfl⟩, fr, q⟩
  · obtain ⟨its, rv, p, hz⟩ := I1.tuple hq
    refine wpAny_pyIter_tuple (show s1.heap.IsTuple a its.toArray from p) ?_
    exact ⟨s1.heap.objs.size, [s1.heap.objs.size], _, _, H1, rfl, I1.kept (t' := s1.toks) fun b o e => Heap.get?_push_of_some _ e, turn_tuple a _, ⟨_, Heap.get?_push_size _ rfl, rfl, rfl⟩, fr, q⟩
theorem si_seq {X : Cx} {tg e : Expr} {g : EM} (h : SE X e g) : SI X tg e (iSeq g) := PI.wk (pi_seq h) fun σ H R ⟨ah, F, N, ρ, hs, ps, hs', G, E, q, k⟩ => by
  obtain ⟨x, h1, q1, q⟩ := M.bind_ok q
  refine ⟨ah, F, N, ρ, hs, x, h1, G, E, q1, fun F1 H1 v1 x1 G1 r1 => ?_⟩
  cases x <;> first | (cases q; done) | skip
  · cases M.pure_ok q
    cases r1 with
    | tup h z r => exact ⟨_, rfl, .inr ⟨_, h, k F1 H1 _ x1 G1 (itw_tup h r) (by rw [← r.length]; exact z)⟩⟩
  · cases M.pure_ok q
    cases r1 with
    | lst f h z r => exact ⟨_, rfl, .inl ⟨_, .of h, k F1 H1 _ x1 G1 (itw_list f h r) (by rw [← r.length]; exact z)⟩⟩
def rng (lo : Int) (n : Nat) : List PV := (List.range n).map fun (i : Nat) => PV.int (lo + i)
/-- range(b), range(a, b) -/
def iRange (gs : Ev → M (List PV)) : IM := fun ρ => do
  let xs ← gs ρ
  match xs with
  | [.int j] => guardM (-(2 ^ 62) ≤ j ∧ j ≤ SZ) (pure (rng 0 j.toNat))
  | [.int i, .int j] => guardM (-(2 ^ 62) ≤ i ∧ i < 2 ^ 62 ∧ -(2 ^ 62) ≤ j ∧ j < 2 ^ 62 ∧ (j - i).toNat ≤ SZ) (pure (rng i (j - i).toNat))
  | _ => stuck
theorem si_range1 {X : Cx} {tg a : Expr} {gs : Ev → M (List PV)} {p pos : Pos} (hm : X.mg "range" = none) (ha : SA X [a] gs) (hg : Gl X "range" := by rfl) (hs : starEach [a] X.env = [(false, eval a X.env)] := by rfl) (hn : Rows gs 1) : SI X tg (.Call (.Name "range" p) [a] [] pos) (iRange gs) :=
  PI.wk (pi_range1 hg hm ha hs) fun σ H R ⟨ah, F, N, ρ, hs, ps, hs', G, E, q, k⟩ => by
    obtain ⟨x, h1, q1, q⟩ := M.bind_ok q
    refine ⟨ah, F, N, ρ, hs, x, h1, G, E, q1, fun F1 H1 v1 x1 G1 r1 => ?_⟩
    have hl := hn _ _ _ _ q1
    match x, hl with
    | [y], _ =>
      obtain ⟨j, rfl⟩ : ∃ j, y = .int j := by cases y <;> first | exact ⟨_, rfl⟩ | (cases q; done)
      obtain ⟨hb, q⟩ := guard_ok q
      cases M.pure_ok q
      cases r1 with
      | cons r t =>
        cases t
        cases r
        have h1 : j ≤ (SZ : Int) := hb.2
        have h2 : (SZ : Int) = 16777216 := rfl
        refine ⟨_, rfl, hb.1, by omega, k F1 H1 _ x1 G1 ?_ ?_⟩
        · exact itw_range
        · rw [szE]
          show (List.map _ _).length ≤ 16777216
          rw [List.length_map, List.length_range]
          omega
theorem si_range2 {X : Cx} {tg a b : Expr} {gs : Ev → M (List PV)} {p pos : Pos} (hm : X.mg "range" = none) (ha : SA X [a, b] gs) (hg : Gl X "range" := by rfl) (hs : starEach [a, b] X.env = [(false, eval a X.env), (false, eval b X.env)] := by rfl)
    (hs2 : starEach [b] X.env = [(false, eval b X.env)] := by rfl) (hn : Rows gs 2) : SI X tg (.Call (.Name "range" p) [a, b] [] pos) (iRange gs) :=
  PI.wk (pi_range2 hg hm ha hs hs2) fun σ H R ⟨ah, F, N, ρ, hs, ps, hs', G, E, q, k⟩ => by
    obtain ⟨x, h1, q1, q⟩ := M.bind_ok q
    refine ⟨ah, F, N, ρ, hs, x, h1, G, E, q1, fun F1 H1 v1 x1 G1 r1 => ?_⟩
    have hl := hn _ _ _ _ q1
    match x, hl with
    | [y, y2], _ =>
      cases y <;> first | (cases q; done) | skip
      cases y2 <;> first | (cases q; done) | skip
      obtain ⟨hb, q⟩ := guard_ok q
      cases M.pure_ok q
      cases r1 with
      | cons r t =>
        cases t with
        | cons r2 t =>
          cases t
          cases r
          cases r2
          refine ⟨_, _, rfl, ⟨hb.1, hb.2.1, hb.2.2.1, hb.2.2.2.1⟩, k F1 H1 _ x1 G1 ?_ ?_⟩
          · exact itw_range
          · rw [szE]
            show (List.map _ _).length ≤ _
            rw [List.length_map, List.length_range]
            exact hb.2.2.2.2
/-- zip(xs, ys): both lists, or both tuples -/
def iZip2 (ga gb : EM) : IM := fun ρ => do
  let x ← ga ρ
  let y ← gb ρ
  match x, y with
  | .tup l, .tup m => pure ((l.zip m).map fun t => .tup [t.1, t.2])
  | .lst l, .lst m => pure ((l.zip m).map fun t => .tup [t.1, t.2])
  | _, _ => stuck
theorem itw_pair {K : Fg} {ah : Option Addr} {F : Addr → Prop} {H : Hp} {J : It} {l m : List PV} (go : ∀ i F1 H1, Kp K F H F1 H1 → i < l.length → i < m.length → J.go i H1) (st : ∀ F1 H1, Kp K F H F1 H1 → J.stop (min l.length m.length) H1)
    (y : ∀ i F1 H1 x H2, Kp K F H F1 H1 → J.yld i H1 x H2 → ∃ T v w p q, x = .ref T ∧ H1 T = none ∧ H2 = upd H1 T (.tup [v, w]) ∧ l[i]? = some p ∧ m[i]? = some q ∧ Rep K ah F1 H1 v p ∧ Rep K ah F1 H1 w q) : ItW K ah F H J ((l.zip m).map fun t => .tup [t.1, t.2]) := by
  refine ⟨fun i F1 H1 kp hi => ?_, fun F1 H1 kp => ?_, fun i F1 H1 hs x H2 kp g hi yy => ?_⟩
  · rw [List.length_map, List.length_zip] at hi
    exact go i F1 H1 kp (by omega) (by omega)
  · rw [List.length_map, List.length_zip]
    exact st F1 H1 kp
  · obtain ⟨T, v, w, p, q, rfl, n, rfl, h1, h2, r1, r2⟩ := y i F1 H1 x H2 kp yy
    refine ⟨.tup [p, q], ?_, .laid n, g.laid n, .tup (SqT.of upd_same) (by rw [szE]; show 2 ≤ SZ; decide) (.cons (r1.mono (g.kpL n)) (.cons (r2.mono (g.kpL n)) .nil))⟩
    rw [List.getElem?_map]
    have : (l.zip m)[i]? = some (p, q) := by
      rw [List.getElem?_zip_eq_some]
      exact ⟨h1, h2⟩
    rw [this]; rfl
theorem si_zip {X : Cx} {e e2 : Expr} {ga gb : EM} {p pos tpos : Pos} {elts : List Expr} {kk : Nat} (hm : X.mg "zip" = none) (ha : SE X e ga) (hb : SE X e2 gb) (hg : Gl X "zip" := by rfl)
    (hs : starEach [e, e2] X.env = (false, eval e X.env) :: starEach [e2] X.env := by rfl) (hs2 : starEach [e2] X.env = (false, eval e2 X.env) :: starEach [] X.env := by rfl) (hpl : (backTo pos (starEach [e2] X.env)).any (·.1) = false := by rfl) :
    SI X (.Tuple elts kk tpos) (.Call (.Name "zip" p) [e, e2] [] pos) (iZip2 ga gb) := PI.wk (RZ.pi_zipA hg hm (pa_cons ha (pa_cons hb pa_nil hs2) hs) hs hpl) fun σ H R ⟨ah, F, N, ρ, hs, ps, hs', G, E, q, k⟩ => by
  obtain ⟨x, h1, q1, q⟩ := M.bind_ok q
  obtain ⟨y, h2, q2, q⟩ := M.bind_ok q
  refine ⟨ah, F, N, ρ, hs, x, h1, G, E, q1, fun F1 H1 v1 x1 G1 r1 => ?_⟩
  refine ⟨ah, F1, N, ρ, h1, y, h2, G1, E.ext G x1, q2, fun F2 H2 v2 x2 G2 r2 => ?_⟩
  have r1 := r1.mono (G1.kp x2)
  have x12 := x1.trans G G1 x2
  have hlen : ∀ {l m : List PV} {n : Nat}, l.length ≤ n → ((l.zip m).map fun t => PV.tup [t.1, t.2]).length ≤ n := fun h => by
    rw [List.length_map, List.length_zip]; omega
  cases x <;> first | (cases q; done) | skip
  · cases y <;> first | (cases q; done) | skip
    cases M.pure_ok q
    cases r1 with
    | tup h z r =>
      cases r2 with
      | tup h' z' r' =>
        refine ⟨_, _, _, _, rfl, .inr ⟨h, h', k F2 H2 _ x12 G2 ?_ (hlen (by rw [← r.length]; exact z))⟩⟩
        refine itw_pair (fun i F3 H3 kp h1 h2 => ?_) (fun F3 H3 kp => ?_) fun i F3 H3 x H4 kp y => ?_
        · rw [← r.length] at h1; rw [← r'.length] at h2
          exact ⟨_, _, _, _, kp.tup _ _ h, kp.tup _ _ h', List.getElem?_eq_getElem h1, List.getElem?_eq_getElem h2⟩
        · exact ⟨_, _, kp.tup _ _ h, kp.tup _ _ h', by rw [r.length, r'.length]; omega⟩
        · obtain ⟨T, v, w, e1, n, e2, f1, f2⟩ := y
          obtain ⟨p1, g1, t1⟩ := (r.mono kp).getV (f1 _ (kp.tup _ _ h))
          obtain ⟨p2, g2, t2⟩ := (r'.mono kp).getV (f2 _ (kp.tup _ _ h'))
          exact ⟨T, v, w, p1, p2, e1, n, e2, g1, g2, t1, t2⟩
  · cases y <;> first | (cases q; done) | skip
    cases M.pure_ok q
    cases r1 with
    | lst f h z r =>
      cases r2 with
      | lst f' h' z' r' =>
        refine ⟨_, _, _, _, rfl, .inl ⟨.of h, .of h', k F2 H2 _ x12 G2 ?_ (hlen (by rw [← r.length]; exact z))⟩⟩
        have s1 : ∀ {F3 H3}, Kp X.K F2 H2 F3 H3 → SqL X.K H3 _ _ := fun kp => .of (kp.keep _ _ f h)
        have s2 : ∀ {F3 H3}, Kp X.K F2 H2 F3 H3 → SqL X.K H3 _ _ := fun kp => .of (kp.keep _ _ f' h')
        refine itw_pair (fun i F3 H3 kp h1 h2 => ?_) (fun F3 H3 kp => ?_) fun i F3 H3 x H4 kp y => ?_
        · rw [← r.length] at h1; rw [← r'.length] at h2
          exact ⟨_, _, _, _, s1 kp, s2 kp, List.getElem?_eq_getElem h1, List.getElem?_eq_getElem h2⟩
        · exact ⟨_, _, s1 kp, s2 kp, by rw [r.length, r'.length]; omega⟩
        · obtain ⟨T, v, w, e1, n, e2, f1, f2⟩ := y
          obtain ⟨p1, g1, t1⟩ := (r.mono kp).getV (f1 _ (s1 kp))
          obtain ⟨p2, g2, t2⟩ := (r'.mono kp).getV (f2 _ (s2 kp))
          exact ⟨T, v, w, p1, p2, e1, n, e2, g1, g2, t1, t2⟩
/-- enumerate(xs), a list -/
def iEnum (ga : EM) : IM := fun ρ => do
  let x ← ga ρ
  match x with
  | .lst l => pure (((rng 0 l.length).zip l).map fun t => .tup [t.1, t.2])
  | _ => stuck
end SL

end
section
namespace SL
open PySem PySem.Spec PyProof.Rows L2
/-! ### list comprehensions -/
def lcF (gt : GM) (tt : TM) (ge : EM) (ρ : Ev) : List PV → M (List PV)
  | [] => pure []
  | p :: ps => do
    let ρ1 ← gt p ρ
    let b ← tt ρ1
    if b = true then (do
      let y ← ge ρ1
      let r ← lcF gt tt ge ρ ps
      pure (y :: r)) else lcF gt tt ge ρ ps
def gLc (gi : IM) (gt : GM) (tt : TM) (ge : EM) (vs : List Nat) : EM := fun ρ => do
  let ps ← gi ρ
  let r ← lcF gt tt ge (wipeE ρ vs) ps
  pure (.lst r)
def gYes : TM := fun _ => pure true
section
variable {K : Fg} {ah : Option Addr} {F F' : Addr → Prop} {H H' : Hp} {hs : HS} {D : Addr} {o : HO} {xs : List V}
theorem Kp.own (d : H D = some (.lst xs)) (nf : ¬ F D) : Kp K F H F (upd H D o) := by
  refine ⟨fun _ h => h, fun a u f h => ?_, fun a ys h => ?_, fun a u v h => ?_⟩
  · rw [upd_ne (fun z : a = D => nf (by rw [← z]; exact f))]; exact h
  · rcases h with (h | ⟨u, h⟩) | h
    · exact .inl (.inl (by rw [upd_ne (fun z => by rw [z, d] at h; cases h)]; exact h))
    · exact .inl (.inr ⟨u, by rw [upd_ne (fun z => by rw [z, d] at h; cases h)]; exact h⟩)
    · exact .inr h
  · rw [upd_ne (fun z => by rw [z, d] at h; cases h)]; exact h
theorem GI.own (g : GI K ah F H hs) (d : H D = some (.lst xs)) (nf : ¬ F D) (n : ah ≠ some D) : GI K ah F (upd H D o) hs := by
  refine ⟨fun a f z => ?_, fun a e => ?_⟩
  · rw [upd_ne (fun z : a = D => nf (by rw [← z]; exact f))] at z; exact g.fin a f z
  · obtain ⟨f, vs, h, z, r⟩ := g.at_ a e
    exact ⟨f, vs, by rw [upd_ne (fun z : a = D => n (by rw [← z]; exact e))]; exact h, z, r.mono (.own d nf)⟩
theorem wipe_wipe (σ : L2.St) : ∀ vs : List Nat, L2.wipe (L2.wipe σ vs) vs = L2.wipe σ vs := by
  have key : ∀ (ws vs : List Nat), (∀ i ∈ ws, i ∈ vs) → ∀ τ, L2.wipe (L2.wipe τ ws) vs = L2.wipe τ vs := by
    intro ws
    induction ws with
    | nil => intro vs _ τ; rfl
    | cons w ws ih =>
      intro vs h τ
      show L2.wipe ((L2.wipe τ ws).set w none) vs = L2.wipe τ vs
      rw [wipe_set (h w List.mem_cons_self)]
      exact ih vs (fun i hi => h i (List.mem_cons_of_mem _ hi)) τ
  intro vs
  exact key vs vs (fun _ h => h) σ
end
theorem lc_w {K : Fg} {gi : IM} {gt : GM} {tt : TM} {ge : EM} {is vs : List Nat} (hv : ∀ i ∈ is, i ∈ vs) (σ : L2.St) (H : Hp) (Q : VK) (h : tSF K (gLc gi gt tt ge vs) σ H Q) : tLc (tSI K gi) (tSG K gt is) (tST K tt) (tS K ge) vs σ H Q := by
  obtain ⟨ah, F, N, ρ, hs, p, hs', G, E, q, k⟩ := h
  obtain ⟨ps, h1, q1, q⟩ := M.bind_ok q
  obtain ⟨r, h2, q2, q⟩ := M.bind_ok q
  cases M.pure_ok q
  refine ⟨ah, F, N, ρ, hs, ps, h1, G, E, q1, fun F1 H1 J x1 G1 I1 zl D nD => ?_⟩
  have E1 := E.ext G x1
  have nD' : ah ≠ some D := G1.ne nD
  refine ⟨fun i m H2 => m = ps.length - i ∧ i ≤ ps.length ∧ ∃ F2 hs2 acc accP rest, Ext K ah F1 H1 F2 H2 ∧ GI K ah F2 H2 hs2 ∧ ¬ F2 D ∧ H2 D = some (.lst acc) ∧ acc.length ≤ i ∧ Reps K ah F2 H2 acc accP ∧
    lcF gt tt ge (wipeE ρ vs) (ps.drop i) hs2 = .ok (rest, hs') ∧ r = accP ++ rest, ⟨ps.length, by simp, Nat.zero_le _, F1, h1, [], [], r, .laid nD, G1.laid nD, G1.nf nD, upd_same, Nat.le_refl _, .nil, q2, rfl⟩, ?_⟩
  rintro i m H2 ⟨rfl, hi, F2, hs2, acc, accP, rest, x2, G2, nf, hD, ha, rA, q, er⟩
  have kp := G1.kp x2
  by_cases hlt : i < ps.length
  · refine .inr ⟨I1.goes i F2 H2 kp hlt, fun H3 => ∃ m', m' < ps.length - i ∧ m' = ps.length - (i + 1) ∧ i + 1 ≤ ps.length ∧ ∃ F2 hs2 acc accP rest, Ext K ah F1 H1 F2 H3 ∧ GI K ah F2 H3 hs2 ∧ ¬ F2 D ∧ H3 D = some (.lst acc) ∧ acc.length ≤ i + 1 ∧ Reps K ah F2 H3 acc accP ∧
      lcF gt tt ge (wipeE ρ vs) (ps.drop (i + 1)) hs2 = .ok (rest, hs') ∧ r = accP ++ rest, fun H3 z => z, fun x H3 y => ?_⟩
    obtain ⟨p, hp, x3, G3, rx⟩ := I1.yields i F2 H2 hs2 x H3 kp G2 hlt y
    have ed : ps.drop i = p :: ps.drop (i + 1) := by
      rw [List.drop_eq_getElem_cons hlt]
      rw [List.getElem?_eq_getElem hlt] at hp
      rw [Option.some.inj hp]
    rw [ed] at q
    obtain ⟨ρ1, h3, q3, qa⟩ := M.bind_ok q
    clear q
    have x13 := x2.trans G1 G2 x3
    have Ew : ER K ah F2 H3 N (L2.wipe σ vs) (wipeE ρ vs) := (E1.ext G1 x13).wipe vs
    refine ⟨ah, F2, N, _, hs2, p, ρ1, h3, G3, Ew, rx, q3, fun σ' E' w e => ⟨(w vs hv).trans (wipe_wipe σ vs), ?_⟩⟩
    subst e
    obtain ⟨b, h4, q4, q⟩ := M.bind_ok qa
    clear qa
    refine ⟨ah, F2, N, ρ1, _, b, h4, G3, E', q4, fun F4 H4 x4 G4 => ?_⟩
    have x14 := x13.trans G1 G3 x4
    have hD4 : H4 D = some (.lst acc) := x4.keep _ _ nD' (x3.keep _ _ nD' hD)
    have nf4 : ¬ F4 D := fun z => (x4.new _ z).elim nf fun z => by
      rw [x3.keep _ _ nD' hD] at z; cases z
    have rA4 := (rA.mono (G2.kp x3)).mono (G3.kp x4)
    cases b with
    | false =>
      rw [if_neg Bool.false_ne_true] at q
      exact iteF ⟨_, by omega, rfl, hlt, F4, h4, acc, accP, rest, x14, G4, nf4, hD4, by omega, rA4, q, er⟩
    | true =>
      rw [if_pos rfl] at q
      refine iteT ?_
      obtain ⟨y, h5, q5, q⟩ := M.bind_ok q
      obtain ⟨r', h6, q6, q⟩ := M.bind_ok q
      cases M.pure_ok q
      refine ⟨ah, F4, N, ρ1, h4, y, h5, G4, E'.ext G3 x4, q5, fun F5 H5 v x5 G5 r5 => ?_⟩
      have hD5 : H5 D = some (.lst acc) := x5.keep _ _ nD' hD4
      have nf5 : ¬ F5 D := fun z => (x5.new _ z).elim nf4 fun z => by
        rw [hD4] at z; cases z
      have rA5 := rA4.mono (G4.kp x5)
      have hz : acc.length < sizeLine := by omega
      have x15 := x14.trans G1 G4 x5
      refine ⟨acc, hD5, hz, _, by omega, rfl, hlt, F5, h5, acc ++ [v], accP ++ [y], r', ⟨x15.mono, x15.new, fun a u n h => ?_⟩, G5.own hD5 nf5 nD', nf5, upd_same, by rw [List.length_append]; show acc.length + 1 ≤ i + 1; omega, ?_, q6, by rw [er, List.append_assoc]; rfl⟩
      · rw [upd_ne (ne_of_none h nD)]; exact x15.keep a u n h
      · exact (rA5.append (.cons r5 .nil)).mono (.own hD5 nf5)
  · have e : i = ps.length := by omega
    subst e
    rw [List.drop_length] at q
    cases M.pure_ok q
    refine .inl ⟨I1.stops F2 H2 kp, ?_⟩
    rw [er, List.append_nil] at k
    exact k F2 H2 D (x1.trans G G1 x2) G2 (x1.free G nD nD') nf (.lst hD (Nat.le_trans ha zl) rA)
section
variable {X : Cx} {elt tg iter : Expr} {ifs : List Expr} {scope : Scope} {own : List (Str × Nat)} {pos : Pos} {gi : IM} {gt : GM} {tt : TM} {ge : EM} {is : List Nat}
abbrev STs (X : Cx) (ifs : List Expr) (g : TM) : Prop := PTs X ifs (tST X.K g)
theorem sts_nil : STs X [] gYes := ⟨fun pins s σ H Q I ⟨ah, F, N, ρ, hs, p, hs', G, E, q, k⟩ => by
  cases M.pure_ok q
  exact pts_nil.run pins s σ H Q I (k F H .refl G)⟩
theorem sts_one {c : Expr} {t : TM} (h : ST X c t) : STs X [c] t := pts_one h
theorem sf_lc (hN : X.N.Nodup) (ok : BlkOk X.N X.env.scope scope own) (hi : SI X tg iter gi)
    (hg : ∀ (s : Shared) (H : Hp) (C : Addr) (cl : List (Str × Addr)) (fp : List Addr), SG (X.blk s H scope (compEnvC scope cl C X.env) fp) tg gt is) (ht : ∀ (s : Shared) (H : Hp) (C : Addr) (cl : List (Str × Addr)) (fp : List Addr), STs (X.blk s H scope (compEnvC scope cl C X.env) fp) ifs tt)
    (he : ∀ (s : Shared) (H : Hp) (C : Addr) (cl : List (Str × Addr)) (fp : List Addr), SE (X.blk s H scope (compEnvC scope cl C X.env) fp) elt ge) (hc : X.calm = true := by rfl) (hv : ∀ i ∈ is, i ∈ own.map (·.2) := by decide) (hs : ∀ x, foldedSetIterable iter X.env x = pure x := by intro _; rfl) :
    SF X (.ListComp elt [⟨tg, iter, ifs, 0⟩] scope pos) (gLc gi gt tt ge (own.map (·.2))) := PE.wk (pe_lc hc hN hi ok hg ht he hs) (lc_w hv)
end
end SL

end
section
namespace SL
open PySem PySem.Spec PyProof.Rows L2
/-! ### statements -/
inductive Out where
  | nx (ρ : Ev) | rt (p : PV) | rtF (p : PV) | bk (ρ : Ev) | ct (ρ : Ev)
abbrev SM := Ev → M Out
structure SInv (K : Fg) (ah : Option Addr) (F0 : Addr → Prop) (H0 : Hp) (F : Addr → Prop) (H : Hp) (σ : L2.St) (ρ : Ev) (hs : HS) : Prop where
  g0 : ∃ hs0, GI K ah F0 H0 hs0
  ext : Ext K ah F0 H0 F H
  gi : GI K ah F H hs
  er : ER K ah F H (fun a => H0 a = none) σ ρ
section
variable {K : Fg} {ah : Option Addr} {F0 F F' : Addr → Prop} {H0 H H' : Hp} {σ : L2.St} {ρ : Ev} {hs hs' : HS} {a : Addr} {o : HO}
theorem SInv.step (I : SInv K ah F0 H0 F H σ ρ hs) (x : Ext K ah F H F' H') (G : GI K ah F' H' hs') : SInv K ah F0 H0 F' H' σ ρ hs' := by
  obtain ⟨h0, g0⟩ := I.g0
  exact ⟨⟨h0, g0⟩, I.ext.trans g0 I.gi x, G, I.er.ext I.gi x⟩
theorem SInv.new (I : SInv K ah F0 H0 F H σ ρ hs) (n : H a = none) : H0 a = none := by
  obtain ⟨h0, g0⟩ := I.g0
  exact I.ext.free g0 n (I.gi.ne n)
end
def Fin (K : Fg) (ah : Option Addr) (F0 : Addr → Prop) (H0 : Hp) (F : Addr → Prop) (H : Hp) (D : Ends) (hs' : HS) : Out → Prop
  | .nx ρ' => ∀ F' H' σ', SInv K ah F0 H0 F' H' σ' ρ' hs' → Kp K F H F' H' → D.nx σ' H'
  | .rt p => ∀ F' H' v, Ext K ah F0 H0 F' H' → GI K ah F' H' hs' → Rep K ah F' H' v p → D.rt v H'
  | .rtF p => ∀ F' H' a, Ext K ah F0 H0 F' H' → GI K ah F' H' hs' → H0 a = none → ¬ F' a → Own K ah F' H' a p → D.rt (.ref a) H'
  | .bk ρ' => ∀ F' H' σ', SInv K ah F0 H0 F' H' σ' ρ' hs' → Kp K F H F' H' → D.bk σ' H'
  | .ct ρ' => ∀ F' H' σ', SInv K ah F0 H0 F' H' σ' ρ' hs' → Kp K F H F' H' → D.ct σ' H'
def tSS (K : Fg) (g : SM) : TS := fun D σ H => ∃ ah F0 H0 F ρ hs out hs', SInv K ah F0 H0 F H σ ρ hs ∧ g ρ hs = .ok (out, hs') ∧ Fin K ah F0 H0 F H D hs' out
abbrev SS (X : Cx) (st : Stmt) (g : SM) : Prop := PS X st (tSS X.K g)
abbrev SSs (X : Cx) (st : List Stmt) (g : SM) : Prop := PSs X st (tSS X.K g)
theorem PS.wk {X : Cx} {e : Stmt} {t u : TS} (h : PS X e t) (w : ∀ D σ H, u D σ H → t D σ H) : PS X e u := ⟨fun pins s σ H D I q => h.run pins s σ H D I (w D σ H q)⟩
theorem PSs.wk {X : Cx} {e : List Stmt} {t u : TS} (h : PSs X e t) (w : ∀ D σ H, u D σ H → t D σ H) : PSs X e u := ⟨fun pins s σ H D I q => h.run pins s σ H D I (w D σ H q)⟩
theorem Fin.kp {K : Fg} {ah : Option Addr} {F0 F F1 : Addr → Prop} {H0 H H1 : Hp} {D : Ends} {hs : HS} {o : Out} (k : Kp K F H F1 H1) (f : Fin K ah F0 H0 F H D hs o) : Fin K ah F0 H0 F1 H1 D hs o := by
  cases o with
  | nx ρ => exact fun F' H' σ' I q => f F' H' σ' I (k.trans q)
  | rt p => exact f
  | rtF p => exact f
  | bk ρ => exact fun F' H' σ' I q => f F' H' σ' I (k.trans q)
  | ct ρ => exact fun F' H' σ' I q => f F' H' σ' I (k.trans q)
def sNx : SM := fun ρ => pure (.nx ρ)
/-- one behind the other -/
def sSeq (a b : SM) : SM := fun ρ => do
  let o ← a ρ
  match o with
  | .nx ρ' => b ρ'
  | o => pure o
section
variable {X : Cx} {st : Stmt} {rest : List Stmt} {e : Expr} {es : List Expr} {pos : Pos} {g ga gb : EM} {s1 s2 : SM} {t : TM}
theorem sss_nil : SSs X [] sNx := PSs.wk pss_nil fun D σ H ⟨ah, F0, H0, F, ρ, hs, out, hs', I, q, f⟩ => by
  cases M.pure_ok q
  exact f F H σ I .refl
theorem sss_cons (h1 : SS X st s1) (h2 : SSs X rest s2) : SSs X (st :: rest) (sSeq s1 s2) := PSs.wk (pss_cons h1 h2) fun D σ H ⟨ah, F0, H0, F, ρ, hs, out, hs', I, q, f⟩ => by
  obtain ⟨o, h1, q1, q⟩ := M.bind_ok q
  refine ⟨ah, F0, H0, F, ρ, hs, o, h1, I, q1, ?_⟩
  cases o with
  | nx ρ1 => exact fun F1 H1 σ1 I1 k1 => ⟨ah, F0, H0, F1, ρ1, h1, out, hs', I1, q, f.kp k1⟩
  | rt p => cases M.pure_ok q; exact f
  | rtF p => cases M.pure_ok q; exact f
  | bk ρ1 => cases M.pure_ok q; exact f
  | ct ρ1 => cases M.pure_ok q; exact f
theorem sss_one (h1 : SS X st s1) : SSs X [st] s1 := pss_one h1
/-- an own thing becomes a shared one -/
def frz1 (i : Nat) (ρ : Ev) : Ev := match ρ[i]? with
  | some (.ow p) => ρ.set i (.fz p)
  | _ => ρ
def sFrz (i : Nat) (s : SM) : SM := fun ρ => s (frz1 i ρ)
theorem frz_inv {K : Fg} {ah : Option Addr} {F0 F : Addr → Prop} {H0 H : Hp} {σ : L2.St} {ρ : Ev} {hs : HS} {i : Nat} (I : SInv K ah F0 H0 F H σ ρ hs) : ∃ F', SInv K ah F0 H0 F' H σ (frz1 i ρ) hs ∧ Kp K F H F' H := by
  unfold frz1
  split
  · rename_i p e
    obtain ⟨a, ea, nf, na, n0, o⟩ := I.er.own e
    obtain ⟨u, hu⟩ := o.there
    refine ⟨fun b => F b ∨ b = a, ⟨I.g0, ⟨fun b h => .inl (I.ext.mono b h), fun b h => h.elim (I.ext.new b) fun e => .inr (e ▸ n0), I.ext.keep⟩, I.gi.frz hu na, ?_⟩, .frzn⟩
    refine ⟨fun j s e1 => ?_, fun j k p q ne e1 e2 => ?_, by rw [List.length_set]; exact I.er.len⟩
    · by_cases hj : i = j
      · subst hj
        have hlt : i < ρ.length := (List.getElem?_eq_some_iff.mp e).1
        rw [List.getElem?_set_self hlt] at e1
        cases e1
        rw [ea]
        exact .fz o.frzn
      · rw [List.getElem?_set_ne hj] at e1
        have q := I.er.at_ j s e1
        generalize ew : σ[j]? = w at q
        cases q with
        | un => exact .un _
        | fz r => exact .fz (r.mono .frzn)
        | ow f n k o' =>
          rename_i b p'
          refine .ow (fun z => z.elim f fun z => ?_) n k ?_
          · exact I.er.apart i j _ _ hj e e1 (by rw [ea, ew, z])
          · cases o' with
            | lst h z r => exact .lst h z (r.mono .frzn)
            | dK h z k r => exact .dK h z k (r.mono .frzn)
            | dT h z k r => exact .dT h z k (r.mono .frzn)
    · by_cases hj : i = j
      · subst hj
        have hlt : i < ρ.length := (List.getElem?_eq_some_iff.mp e).1
        rw [List.getElem?_set_self hlt] at e1
        cases e1
      · by_cases hk : i = k
        · subst hk
          have hlt : i < ρ.length := (List.getElem?_eq_some_iff.mp e).1
          rw [List.getElem?_set_self hlt] at e2
          cases e2
        · rw [List.getElem?_set_ne hj] at e1
          rw [List.getElem?_set_ne hk] at e2
          exact I.er.apart j k p q ne e1 e2
  · exact ⟨F, I, .refl⟩
theorem sss_frz {sts : List Stmt} (i : Nat) (h : SSs X sts s1) : SSs X sts (sFrz i s1) := PSs.wk h fun D σ H ⟨ah, F0, H0, F, ρ, hs, out, hs', I, q, f⟩ => by
  obtain ⟨F', I', k⟩ := frz_inv (i := i) I
  exact ⟨ah, F0, H0, F', frz1 i ρ, hs, out, hs', I', q, f.kp k⟩
/-- target = e -/
def sAsg (g : EM) (t : GM) : SM := fun ρ => do
  let p ← g ρ
  let ρ' ← t p ρ
  pure (.nx ρ')
theorem asg_w {te : TE} {gt : GM} {is : List Nat} (w : ∀ σ H Q, tS X.K g σ H Q → te σ H Q) (D : Ends) (σ : L2.St) (H : Hp) (h : tSS X.K (sAsg g gt) D σ H) : tAsg te (tSG X.K gt is) D σ H := by
  obtain ⟨ah, F0, H0, F, ρ, hs, out, hs', I, q, f⟩ := h
  obtain ⟨p, h1, q1, q⟩ := M.bind_ok q
  obtain ⟨ρ1, h2, q2, q⟩ := M.bind_ok q
  cases M.pure_ok q
  refine w σ H _ ⟨ah, F, _, ρ, hs, p, h1, I.gi, I.er, q1, fun F1 H1 v x1 G1 r1 => ?_⟩
  have I1 := I.step x1 G1
  refine ⟨ah, F1, _, ρ, h1, p, ρ1, _, G1, I1.er, r1, q2, fun σ1 E1 _ e => ?_⟩
  subst e
  exact f F1 H1 σ1 ⟨I1.g0, I1.ext, G1, E1⟩ (I.gi.kp x1)
theorem ss_asg {tg : Expr} {gt : GM} {is : List Nat} (he : SE X e g) (hg : SG X tg gt is) (hs : swapsWithSole [tg] e pos.line X.env = pure false := by rfl) (hw : swappedStores [tg] e X.env = pure none := by rfl)
    (h1 : (assignEach [tg] X.env).map (·.2) = [assign tg X.env] := by rfl) : SS X (.Assign [tg] e pos) (sAsg g gt) := PS.wk (ps_asg he hg hs hw h1) (asg_w fun _ _ _ h => h)
/-- x = a new thing, the frame's own -/
def sOwn (g : EM) (i : Nat) : SM := fun ρ => do
  let p ← g ρ
  pure (.nx (ρ.set i (.ow p)))
theorem own_w {te : TE} {i : Nat} (w : ∀ σ H Q, tSF X.K g σ H Q → te σ H Q) (D : Ends) (σ : L2.St) (H : Hp) (h : tSS X.K (sOwn g i) D σ H) : tAsg te (gName i) D σ H := by
  obtain ⟨ah, F0, H0, F, ρ, hs, out, hs', I, q, f⟩ := h
  obtain ⟨p, h1, q1, q⟩ := M.bind_ok q
  cases M.pure_ok q
  refine w σ H _ ⟨ah, F, _, ρ, hs, p, _, I.gi, I.er, q1, fun F1 H1 a x1 G1 n nf o => ?_⟩
  have I1 := I.step x1 G1
  refine f F1 H1 _ ⟨I1.g0, I1.ext, G1, I1.er.set (.ow nf (I.gi.ne n) (I.new n) o) fun p' _ j t ne e1 e2 => ?_⟩ (I.gi.kp x1)
  obtain ⟨b, e3, _, _, _, o'⟩ := I.er.own e1
  obtain ⟨u, hu⟩ := o'.there
  rw [e2] at e3
  cases e3
  rw [n] at hu; cases hu
theorem ss_own {x : Str} {i : Nat} {p : Pos} (he : SF X e g) (hg : PG X (.Name x p) (gName i)) (hs : swapsWithSole [.Name x p] e pos.line X.env = pure false := by rfl) (hw : swappedStores [.Name x p] e X.env = pure none := by rfl)
    (h1 : (assignEach [.Name x p] X.env).map (·.2) = [assign (.Name x p) X.env] := by rfl) : SS X (.Assign [.Name x p] e pos) (sOwn g i) := PS.wk (ps_asg he hg hs hw h1) (own_w fun _ _ _ h => h)
/-- an expression alone -/
def sExpr (g : EM) : SM := fun ρ => do
  let _ ← g ρ
  pure (.nx ρ)
theorem ss_expr (he : SE X e g) (hs : swapsWith e none pos.line X.env = pure false := by rfl) : SS X (.Expr e pos) (sExpr g) := PS.wk (ps_expr he hs) fun D σ H ⟨ah, F0, H0, F, ρ, hs, out, hs', I, q, f⟩ => by
  obtain ⟨p, h1, q1, q⟩ := M.bind_ok q
  cases M.pure_ok q
  exact ⟨ah, F, _, ρ, hs, p, _, I.gi, I.er, q1, fun F1 H1 v x1 G1 r1 => f F1 H1 σ (I.step x1 G1) (I.gi.kp x1)⟩
def sRet (g : EM) : SM := fun ρ => do
  let p ← g ρ
  pure (.rt p)
def sRetF (g : EM) : SM := fun ρ => do
  let p ← g ρ
  pure (.rtF p)
theorem ss_ret (he : SE X e g) : SS X (.Return (some e) pos) (sRet g) := PS.wk (ps_ret he) fun D σ H ⟨ah, F0, H0, F, ρ, hs, out, hs', I, q, f⟩ => by
  obtain ⟨p, h1, q1, q⟩ := M.bind_ok q
  cases M.pure_ok q
  exact ⟨ah, F, _, ρ, hs, p, _, I.gi, I.er, q1, fun F1 H1 v x1 G1 r1 => f F1 H1 v (I.step x1 G1).ext G1 r1⟩
theorem ss_retF (he : SF X e g) : SS X (.Return (some e) pos) (sRetF g) := PS.wk (ps_ret he) fun D σ H ⟨ah, F0, H0, F, ρ, hs, out, hs', I, q, f⟩ => by
  obtain ⟨p, h1, q1, q⟩ := M.bind_ok q
  cases M.pure_ok q
  exact ⟨ah, F, _, ρ, hs, p, _, I.gi, I.er, q1, fun F1 H1 a x1 G1 n nf o => f F1 H1 a (I.step x1 G1).ext G1 (I.new n) nf o⟩
def sRetN : SM := fun _ => pure (.rt .non)
theorem ss_retN : SS X (.Return none pos) sRetN := PS.wk ps_retN fun D σ H ⟨ah, F0, H0, F, ρ, hs, out, hs', I, q, f⟩ => by
  cases M.pure_ok q
  exact f F H _ I.ext I.gi .non
theorem ss_pass : SS X (.Pass pos) sNx := PS.wk ps_pass fun D σ H ⟨ah, F0, H0, F, ρ, hs, out, hs', I, q, f⟩ => by
  cases M.pure_ok q
  exact f F H σ I .refl
def sBrk : SM := fun ρ => pure (.bk ρ)
def sCnt : SM := fun ρ => pure (.ct ρ)
theorem ss_break : SS X (.Break pos) sBrk := PS.wk ps_break fun D σ H ⟨ah, F0, H0, F, ρ, hs, out, hs', I, q, f⟩ => by
  cases M.pure_ok q
  exact f F H σ I .refl
theorem ss_continue : SS X (.Continue pos) sCnt := PS.wk ps_continue fun D σ H ⟨ah, F0, H0, F, ρ, hs, out, hs', I, q, f⟩ => by
  cases M.pure_ok q
  exact f F H σ I .refl
/-- what the walk never comes to -/
def sNever : SM := fun _ => stuck
theorem ss_never : SS X st sNever := PS.wk ps_never fun D σ H ⟨ah, F0, H0, F, ρ, hs, out, hs', I, q, f⟩ => by cases q
theorem sss_never {sts : List Stmt} : SSs X sts sNever := PSs.wk pss_never fun D σ H ⟨ah, F0, H0, F, ρ, hs, out, hs', I, q, f⟩ => by cases q
def sIf (t : TM) (a b : SM) : SM := fun ρ => do
  let c ← t ρ
  if c = true then a ρ else b ρ
theorem ss_if {c : Expr} {xs ys : List Stmt} (hc : ST X c t) (h1 : SSs X xs s1) (h2 : SSs X ys s2) : SS X (.If c xs ys pos) (sIf t s1 s2) := PS.wk (ps_if hc h1 h2) fun D σ H ⟨ah, F0, H0, F, ρ, hs, out, hs', I, q, f⟩ => by
  obtain ⟨b, h1, q1, q⟩ := M.bind_ok q
  refine ⟨ah, F, _, ρ, hs, b, h1, I.gi, I.er, q1, fun F1 H1 x1 G1 => ?_⟩
  cases b with
  | true => exact iteT ⟨ah, F0, H0, F1, ρ, h1, out, hs', I.step x1 G1, q, f.kp (I.gi.kp x1)⟩
  | false => exact iteF ⟨ah, F0, H0, F1, ρ, h1, out, hs', I.step x1 G1, q, f.kp (I.gi.kp x1)⟩

/-! ### loops -/
def forF (gt : GM) (gb : SM) : List PV → SM
  | [], ρ => pure (.nx ρ)
  | p :: ps, ρ => do
    let ρ1 ← gt p ρ
    let o ← gb ρ1
    match o with
    | .nx ρ' => forF gt gb ps ρ'
    | .ct ρ' => forF gt gb ps ρ'
    | .bk ρ' => pure (.nx ρ')
    | o => pure o
def sFor (gi : IM) (gt : GM) (gb : SM) : SM := fun ρ => do
  let ps ← gi ρ
  forF gt gb ps ρ
theorem for_w {K : Fg} {gi : IM} {gt : GM} {gb : SM} {is : List Nat} (D : Ends) (σ : L2.St) (H : Hp) (h : tSS K (sFor gi gt gb) D σ H) : tFor (tSI K gi) (tSG K gt is) (tSS K gb) D σ H := by
  obtain ⟨ah, F0, H0, F, ρ, hs, out, hs', I, q, f⟩ := h
  obtain ⟨ps, h1, q1, q⟩ := M.bind_ok q
  refine ⟨ah, F, _, ρ, hs, ps, h1, I.gi, I.er, q1, fun F1 H1 J x1 G1 I1 zl => ?_⟩
  have f1 := f.kp (I.gi.kp x1)
  refine ⟨fun i m σ2 H2 => m = ps.length - i ∧ i ≤ ps.length ∧ ∃ F2 ρ2 hs2, SInv K ah F0 H0 F2 H2 σ2 ρ2 hs2 ∧ Kp K F1 H1 F2 H2 ∧ forF gt gb (ps.drop i) ρ2 hs2 = .ok (out, hs'), ⟨ps.length, by simp, Nat.zero_le _, F1, ρ, h1, I.step x1 G1, .refl, q⟩, ?_⟩
  rintro i m σ2 H2 ⟨rfl, hi, F2, ρ2, hs2, I2, k2, q⟩
  by_cases hlt : i < ps.length
  · refine .inr ⟨I1.goes i F2 H2 k2 hlt, fun σ3 H3 => ∃ m', m' < ps.length - i ∧ m' = ps.length - (i + 1) ∧ i + 1 ≤ ps.length ∧ ∃ F2 ρ2 hs2, SInv K ah F0 H0 F2 H3 σ3 ρ2 hs2 ∧ Kp K F1 H1 F2 H3 ∧ forF gt gb (ps.drop (i + 1)) ρ2 hs2 = .ok (out, hs'), fun σ3 H3 z => z, fun x H3 y => ?_⟩
    obtain ⟨p, hp, x3, G3, rx⟩ := I1.yields i F2 H2 hs2 x H3 k2 I2.gi hlt y
    have ed : ps.drop i = p :: ps.drop (i + 1) := by
      rw [List.drop_eq_getElem_cons hlt]
      rw [List.getElem?_eq_getElem hlt] at hp
      rw [Option.some.inj hp]
    rw [ed] at q
    obtain ⟨ρ3, h3, q3, qa⟩ := M.bind_ok q
    obtain ⟨o, h4, q4, qb⟩ := M.bind_ok qa
    have I3 := I2.step x3 G3
    have k3 := k2.trans (I2.gi.kp x3)
    refine ⟨ah, F2, _, ρ2, hs2, p, ρ3, h3, G3, I3.er, rx, q3, fun σ4 E4 _ e => ?_⟩
    subst e
    have I4 : SInv K ah F0 H0 F2 H3 σ4 ρ3 h3 := ⟨I3.g0, I3.ext, G3, E4⟩
    refine ⟨ah, F0, H0, F2, ρ3, h3, o, h4, I4, q4, ?_⟩
    cases o with
    | nx ρ5 => exact fun F5 H5 σ5 I5 k5 => ⟨_, by omega, rfl, hlt, F5, ρ5, h4, I5, k3.trans k5, qb⟩
    | ct ρ5 => exact fun F5 H5 σ5 I5 k5 => ⟨_, by omega, rfl, hlt, F5, ρ5, h4, I5, k3.trans k5, qb⟩
    | bk ρ5 => cases M.pure_ok qb; exact fun F5 H5 σ5 I5 k5 => f1 F5 H5 σ5 I5 (k3.trans k5)
    | rt p5 => cases M.pure_ok qb; exact f1
    | rtF p5 => cases M.pure_ok qb; exact f1
  · have e : i = ps.length := by omega
    subst e
    rw [List.drop_length] at q
    cases M.pure_ok q
    exact .inl ⟨I1.stops F2 H2 k2, f1 F2 H2 σ2 I2 k2⟩
theorem ss_for {tg iter : Expr} {body : List Stmt} {gi : IM} {gt : GM} {gb : SM} {is : List Nat} (hp : PassesOwn (model X.prog X.w) X.A X.env X.xe) (hi : SI X tg iter gi) (hg : SG X tg gt is) (hb : SSs X body gb) (hc : X.calm = true := by rfl)
    (hs : ∀ x, foldedSetIterable iter X.env x = pure x := by intro _; rfl) : SS X (.For tg iter body [] pos) (sFor gi gt gb) := PS.wk (ps_for hp hc hi hg hb hs) for_w
def whF (c : TM) (gb : SM) : Nat → SM
  | 0, _ => stuck
  | n + 1, ρ => do
    let b ← c ρ
    if b = true then (do
      let o ← gb ρ
      match o with
      | .nx ρ' => whF c gb n ρ'
      | .ct ρ' => whF c gb n ρ'
      | .bk ρ' => pure (.nx ρ')
      | o => pure o) else pure (.nx ρ)
/-- at most n turns -/
def sWh (n : Nat) (c : TM) (gb : SM) : SM := whF c gb n
theorem wh_w {K : Fg} {n : Nat} {c : TM} {gb : SM} (D : Ends) (σ : L2.St) (H : Hp) (h : tSS K (sWh n c gb) D σ H) : tWhile (tST K c) (tSS K gb) D σ H := by
  obtain ⟨ah, F0, H0, F, ρ, hs, out, hs', I, q, f⟩ := h
  refine ⟨fun m σ2 H2 => ∃ F2 ρ2 hs2, SInv K ah F0 H0 F2 H2 σ2 ρ2 hs2 ∧ Kp K F H F2 H2 ∧ whF c gb m ρ2 hs2 = .ok (out, hs'), ⟨n, F, ρ, hs, I, .refl, q⟩, ?_⟩
  rintro m σ2 H2 ⟨F2, ρ2, hs2, I2, k2, q⟩
  cases m with
  | zero => cases q
  | succ m =>
    obtain ⟨b, h3, q3, qa⟩ := M.bind_ok q
    refine ⟨ah, F2, _, ρ2, hs2, b, h3, I2.gi, I2.er, q3, fun F3 H3 x3 G3 => ?_⟩
    have I3 := I2.step x3 G3
    have k3 := k2.trans (I2.gi.kp x3)
    cases b with
    | false =>
      cases M.pure_ok qa
      exact iteF (f F3 H3 σ2 I3 k3)
    | true =>
      refine iteT ⟨fun σ4 H4 => ∃ m', m' < m + 1 ∧ ∃ F2 ρ2 hs2, SInv K ah F0 H0 F2 H4 σ4 ρ2 hs2 ∧ Kp K F H F2 H4 ∧ whF c gb m' ρ2 hs2 = .ok (out, hs'), fun σ4 H4 z => z, ?_⟩
      obtain ⟨o, h4, q4, qb⟩ := M.bind_ok qa
      refine ⟨ah, F0, H0, F3, ρ2, h3, o, h4, I3, q4, ?_⟩
      cases o with
      | nx ρ5 => exact fun F5 H5 σ5 I5 k5 => ⟨m, Nat.lt_succ_self _, F5, ρ5, h4, I5, k3.trans k5, qb⟩
      | ct ρ5 => exact fun F5 H5 σ5 I5 k5 => ⟨m, Nat.lt_succ_self _, F5, ρ5, h4, I5, k3.trans k5, qb⟩
      | bk ρ5 => cases M.pure_ok qb; exact fun F5 H5 σ5 I5 k5 => f F5 H5 σ5 I5 (k3.trans k5)
      | rt p5 => cases M.pure_ok qb; exact f
      | rtF p5 => cases M.pure_ok qb; exact f
theorem ss_while {c : Expr} {body : List Stmt} {gb : SM} (n : Nat) (hp : PassesOwn (model X.prog X.w) X.A X.env X.xe) (hc : ST X c t) (hb : SSs X body gb) : SS X (.While c body [] pos) (sWh n t gb) := PS.wk (ps_while hp hc hb) wh_w
end

/-! ### a def -/
def ev0 (nl : Nat) (ps : List PV) : Ev := ps.map .fz ++ List.replicate (nl - ps.length) .un
/-- the mirror of a def: nl names, its body -/
def fnM (nl : Nat) (g : SM) : List PV → M PV := fun ps => do
  let o ← g (ev0 nl ps)
  match o with
  | .rt p => pure p
  | .nx _ => pure .non
  | _ => stuck
theorem er_start {K : Fg} {ah : Option Addr} {F N : Addr → Prop} {H : Hp} {Ns : List Str} {vs : List V} {ps : List PV} (r : Reps K ah F H vs ps) : ER K ah F H N (L2.start Ns vs) (ev0 Ns.length ps) := by
  unfold L2.start ev0
  rw [r.length]
  refine ⟨fun i s e => ?_, fun i j p q ne e1 e2 => ?_, by simp [r.length]⟩
  · by_cases hi : i < ps.length
    · rw [List.getElem?_append_left (by simpa using hi)] at e
      rw [List.getElem?_append_left (by simpa [r.length] using hi)]
      rw [List.getElem?_map] at e ⊢
      cases ep : ps[i]? with
      | none => rw [ep] at e; cases e
      | some p =>
        rw [ep] at e
        cases e
        obtain ⟨v, hv, rv⟩ := r.get ep
        rw [hv]
        exact .fz rv
    · rw [List.getElem?_append_right (by simpa using hi), List.getElem?_replicate] at e
      split at e
      · cases e; exact .un _
      · cases e
  · have no : ∀ {k : Nat} {p : PV}, (List.map Slot.fz ps ++ List.replicate (Ns.length - ps.length) Slot.un)[k]? = some (.ow p) → False := fun {k p} h => by
      by_cases hk : k < ps.length
      · rw [List.getElem?_append_left (by simpa using hk), List.getElem?_map] at h
        cases ep : ps[k]? with
        | none => rw [ep] at h; cases h
        | some p => rw [ep] at h; cases h
      · rw [List.getElem?_append_right (by simpa using hk), List.getElem?_replicate] at h
        split at h <;> cases h
    exact (no e1).elim
section
variable {P : Program} {w : World} {K : Fg} {mg : Str → Option Value} {base : Heap}
theorem ok_fn {x qual : Str} {st : Stmt} {f : Addr} {fd : FuncData} {Ns ps : List Str} {k : Nat} {g : SM} (Fu : Fun K x qual st f fd) (S : FnScope Ns ps (defScope st))
    (hb : ∀ (cdv : Value) (A : Around) (outer : List Env) (s : Shared) (H : Hp) (E : XK), Room k (A.deeper (envOfC qual (defScope st) s.heap.objs.size f cdv)) → SSs (cxOf CX0 P w K mg base Ns qual (defScope st) f cdv A outer s H E).nox (defBody st) g) :
    FnOk P w K mg base CX0 (k + 1) f fd ps (spM K ps.length (fnM Ns.length g)) := by
  refine Fu.ok S (fun vs H Q E h => h.1) fun cdv A outer s H vs Q E hr h => ⟨_, hb cdv A outer s H E hr, ?_⟩
  obtain ⟨hl, ah, F, qs, hs, p, hs', G, r, q, k⟩ := h
  obtain ⟨o, h1, q1, q⟩ := M.bind_ok q
  refine ⟨ah, F, H, F, ev0 Ns.length qs, hs, o, h1, ⟨⟨hs, G⟩, .refl, G, er_start r⟩, q1, ?_⟩
  cases o with
  | nx ρ => cases M.pure_ok q; exact fun F' H' σ' I' _ => k F' H' _ I'.ext I'.gi .non
  | rt p => cases M.pure_ok q; exact fun F' H' v x' G' r' => k F' H' v x' G' r'
  | _ => cases q
theorem known {x qual : Str} {st : Stmt} {f : Addr} {fd : FuncData} {Ns ps : List Str} {k n : Nat} {g : SM} (hm : mg x = some (.ref f)) (Fu : Fun K x qual st f fd) (b : L2.Binds K fd ps []) (S : FnScope Ns ps (defScope st)) (hn : ps.length = n)
    (hb : ∀ (cdv : Value) (A : Around) (outer : List Env) (s : Shared) (H : Hp) (E : XK), Room k (A.deeper (envOfC qual (defScope st) s.heap.objs.size f cdv)) → SSs (cxOf CX0 P w K mg base Ns qual (defScope st) f cdv A outer s H E).nox (defBody st) g) :
    Known P w K mg base x n (k + 1) (fnM Ns.length g) := ⟨f, fd, ps, hm, Fu.kp, b, by rw [← hn]; exact ok_fn Fu S hb⟩
end
end SL

end
section
namespace SL
open PySem PySem.Spec PyProof.Rows L2
theorem M.set_ok {x h : HS} {r : PUnit × HS} (e : (set x : M PUnit) h = .ok r) : r = (PUnit.unit, x) := by
  have e : Except.ok (PUnit.unit, x) = .ok r := e
  cases e; rfl
/-! ### own lists changed -/
def ownL : Option Slot → M (List PV)
  | some (.ow (.lst l)) => pure l
  | _ => stuck
theorem ownL_ok {o : Option Slot} {hs : HS} {r : List PV × HS} (h : ownL o hs = .ok r) : o = some (.ow (.lst r.1)) ∧ r.2 = hs := by
  unfold ownL at h
  split at h
  · cases M.pure_ok h; exact ⟨rfl, rfl⟩
  · cases h
section
variable {K : Fg} {ah : Option Addr} {F0 F F' : Addr → Prop} {H0 H H' : Hp} {σ : L2.St} {ρ : Ev} {hs hs' : HS} {a : Addr} {o : HO} {i : Nat} {p q : PV}
theorem ER.ownL {N : Addr → Prop} {l : List PV} (E : ER K ah F H N σ ρ) (e : ρ[i]? = some (.ow (.lst l))) : ∃ a vs, σ[i]? = some (some (.ref a)) ∧ ¬ F a ∧ ah ≠ some a ∧ N a ∧ H a = some (.lst vs) ∧ vs.length ≤ sizeLine ∧ Reps K ah F H vs l := by
  obtain ⟨a, h1, h2, h3, h4, o⟩ := E.own e
  cases o with
  | lst h z r => exact ⟨a, _, h1, h2, h3, h4, h, z, r⟩
theorem SInv.updL {xs vs : List V} {ps : List PV} (I : SInv K ah F0 H0 F H σ ρ hs) (e : ρ[i]? = some (.ow p)) (ea : σ[i]? = some (some (.ref a))) (nf : ¬ F a) (na : ah ≠ some a) (n0 : H0 a = none) (h : H a = some (.lst xs)) (z : vs.length ≤ sizeLine) (r : Reps K ah F H vs ps) :
    SInv K ah F0 H0 F (upd H a (.lst vs)) σ (ρ.set i (.ow (.lst ps))) hs ∧ Kp K F H F (upd H a (.lst vs)) := by
  have kp : Kp K F H F (upd H a (.lst vs)) := .own h nf
  refine ⟨⟨I.g0, ⟨I.ext.mono, I.ext.new, fun b u n q => by rw [upd_ne (ne_of_none q n0)]; exact I.ext.keep b u n q⟩, I.gi.own h nf na, ?_⟩, kp⟩
  have hlt : i < ρ.length := (List.getElem?_eq_some_iff.mp e).1
  refine ⟨fun j s e1 => ?_, fun j k p q ne e1 e2 => ?_, by rw [List.length_set]; exact I.er.len⟩
  · by_cases hj : i = j
    · subst hj
      rw [List.getElem?_set_self hlt] at e1
      cases e1
      rw [ea]
      exact .ow nf na n0 (.lst upd_same z (r.mono kp))
    · rw [List.getElem?_set_ne hj] at e1
      have q := I.er.at_ j s e1
      generalize ew : σ[j]? = w at q
      cases q with
      | un => exact .un _
      | fz r => exact .fz (r.mono kp)
      | ow f n k o' =>
        rename_i b p'
        have hb : b ≠ a := fun z => I.er.apart i j _ _ hj e e1 (by rw [ea, ew, z])
        refine .ow f n k ?_
        cases o' with
        | lst h z r => exact .lst (by rw [upd_ne hb]; exact h) z (r.mono kp)
        | dK h z k r => exact .dK (by rw [upd_ne hb]; exact h) z k (r.mono kp)
        | dT h z k r => exact .dT (by rw [upd_ne hb]; exact h) z k (r.mono kp)
  · have back : ∀ (j : Nat) (p : PV), (ρ.set i (.ow (.lst ps)))[j]? = some (.ow p) → ∃ p', ρ[j]? = some (.ow p') := fun j p h => by
      by_cases hj : i = j
      · subst hj; exact ⟨_, e⟩
      · rw [List.getElem?_set_ne hj] at h; exact ⟨_, h⟩
    obtain ⟨p', f1⟩ := back j p e1
    obtain ⟨q', f2⟩ := back k q e2
    exact I.er.apart j k p' q' ne f1 f2
theorem tyV_lst {xs : List V} (h : H a = some (.lst xs)) : tyV K "list" (.ref a) H := .inl ⟨rfl, _, SqL.of h⟩
end
section
variable {X : Cx} {e ei : Expr} {x y : Str} {p p1 p2 p3 pos apos : Pos} {g gi : EM} {i j : Nat}
/-- x.append(e) -/
def sApp (i : Nat) (g : EM) : SM := fun ρ => do
  let l ← ownL ρ[i]?
  let p ← g ρ
  guardM (l.length < SZ) (pure (.nx (ρ.set i (.ow (.lst (l ++ [p]))))))
theorem app_w (D : Ends) (σ : L2.St) (H : Hp) (h : tSS X.K (sApp i g) D σ H) : tDrop (tBM X.K "list" rAppend (tVar i) (tCons (tS X.K g) tNil)) D σ H := by
  obtain ⟨ah, F0, H0, F, ρ, hs, out, hs', I, q, f⟩ := h
  obtain ⟨l, h1, q1, q⟩ := M.bind_ok q
  obtain ⟨p, h2, q2, q⟩ := M.bind_ok q
  obtain ⟨hz, q⟩ := guard_ok q
  cases M.pure_ok q
  obtain ⟨e, e'⟩ := ownL_ok q1
  subst e'
  obtain ⟨a, vs, ea, nf, na, n0, h, z, r⟩ := I.er.ownL e
  refine ⟨_, ea, tyV_lst h, ah, F, _, ρ, _, p, _, I.gi, I.er, q2, fun F1 H1 v x1 G1 r1 => ?_⟩
  have I1 := I.step x1 G1
  obtain ⟨a', vs', ea', nf1, na1, n01, h1, z1, rr⟩ := I1.er.ownL e
  rw [ea] at ea'
  cases ea'
  have hl : vs'.length < sizeLine := by rw [rr.length, szE]; exact hz
  obtain ⟨I2, k2⟩ := I1.updL (vs := vs' ++ [v]) (ps := l ++ [p]) e ea nf1 na1 n01 h1 (by rw [List.length_append]; exact hl) (rr.append (.cons r1 .nil))
  exact ⟨a, vs', v, rfl, rfl, h1, hl, f F1 _ σ I2 ((I.gi.kp x1).trans k2)⟩
/-- x.extend(e), e a list -/
def sExt (i : Nat) (g : EM) : SM := fun ρ => do
  let l ← ownL ρ[i]?
  let p ← g ρ
  match p with
  | .lst m => guardM (l.length + m.length ≤ SZ) (pure (.nx (ρ.set i (.ow (.lst (l ++ m))))))
  | _ => stuck
theorem ext_w (D : Ends) (σ : L2.St) (H : Hp) (h : tSS X.K (sExt i g) D σ H) : tDrop (tBM X.K "list" rExtend (tVar i) (tCons (tS X.K g) tNil)) D σ H := by
  obtain ⟨ah, F0, H0, F, ρ, hs, out, hs', I, q, f⟩ := h
  obtain ⟨l, h1, q1, q⟩ := M.bind_ok q
  obtain ⟨p, h2, q2, q⟩ := M.bind_ok q
  cases p <;> first | (cases q; done) | skip
  rename_i m
  obtain ⟨hz, q⟩ := guard_ok q
  cases M.pure_ok q
  obtain ⟨e, e'⟩ := ownL_ok q1
  subst e'
  obtain ⟨a, vs, ea, nf, na, n0, h, z, r⟩ := I.er.ownL e
  refine ⟨_, ea, tyV_lst h, ah, F, _, ρ, _, _, _, I.gi, I.er, q2, fun F1 H1 v x1 G1 r1 => ?_⟩
  have I1 := I.step x1 G1
  obtain ⟨a', vs', ea', nf1, na1, n01, h1, z1, rr⟩ := I1.er.ownL e
  rw [ea] at ea'
  cases ea'
  cases r1 with
  | @lst b ws _ fb hb zb rb =>
    have hl : vs'.length + ws.length ≤ sizeLine := by rw [rr.length, rb.length, szE]; exact hz
    obtain ⟨I2, k2⟩ := I1.updL (vs := vs' ++ _) (ps := l ++ m) e ea nf1 na1 n01 h1 (by rw [List.length_append]; exact hl) (rr.append rb)
    exact ⟨a, _, vs', _, rfl, rfl, h1, hb, hl, f F1 _ σ I2 ((I.gi.kp x1).trans k2)⟩
/-- x[i] = e -/
def sSet (i : Nat) (gi g : EM) : SM := fun ρ => do
  let p ← g ρ
  let l ← ownL ρ[i]?
  let y ← gi ρ
  let k ← asInt y
  let j ← liftO (ixN l.length k)
  pure (.nx (ρ.set i (.ow (.lst (l.set j p)))))
theorem set_w (D : Ends) (σ : L2.St) (H : Hp) (h : tSS X.K (sSet i gi g) D σ H) : tAsg (tS X.K g) (gSub (tVar i) (tS X.K gi) rSetL) D σ H := by
  obtain ⟨ah, F0, H0, F, ρ, hs, out, hs', I, q, f⟩ := h
  obtain ⟨p, h1, q1, q⟩ := M.bind_ok q
  obtain ⟨l, h2, q2, q⟩ := M.bind_ok q
  obtain ⟨y, h3, q3, q⟩ := M.bind_ok q
  obtain ⟨k, h4, q4, q⟩ := M.bind_ok q
  obtain ⟨j, h5, q5, q⟩ := M.bind_ok q
  cases M.pure_ok q
  obtain ⟨e, e'⟩ := ownL_ok q2
  subst e'
  obtain ⟨rfl, rfl⟩ := asInt_ok q4
  obtain ⟨ej, e'⟩ := M.lift_ok q5
  cases e'
  refine ⟨ah, F, _, ρ, _, p, _, I.gi, I.er, q1, fun F1 H1 v x1 G1 r1 => ?_⟩
  have I1 := I.step x1 G1
  obtain ⟨a, vs, ea, nf, na, n0, h, z, r⟩ := I1.er.ownL e
  refine ⟨_, ea, ah, F1, _, ρ, _, _, _, I1.gi, I1.er, q3, fun F2 H2 v2 x2 G2 r2 => ?_⟩
  have I2 := I1.step x2 G2
  obtain ⟨a', vs', ea', nf1, na1, n01, h1, z1, rr⟩ := I2.er.ownL e
  rw [ea] at ea'
  cases ea'
  cases r2
  obtain ⟨I3, k3⟩ := I2.updL (vs := vs'.set j v) (ps := l.set j p) e ea nf1 na1 n01 h1 (by rw [List.length_set]; exact z1) (rr.set (r1.mono (I1.gi.kp x2)) j)
  exact ⟨a, vs', _, j, rfl, rfl, h1, by rw [rr.length]; exact ej, f F2 _ σ I3 (((I.gi.kp x1).trans (I1.gi.kp x2)).trans k3)⟩
/-- hand[i] = e -/
def sSetH (go gi g : EM) : SM := fun ρ => do
  let p ← g ρ
  let o ← go ρ
  let y ← gi ρ
  let k ← asInt y
  match o with
  | .hand => do
    let h ← get
    let j ← liftO (ixN h.length k)
    set (h.set j p)
    pure (.nx ρ)
  | _ => stuck
theorem seth_w {go : EM} (D : Ends) (σ : L2.St) (H : Hp) (h : tSS X.K (sSetH go gi g) D σ H) : tAsg (tS X.K g) (gSub (tS X.K go) (tS X.K gi) rSetL) D σ H := by
  obtain ⟨ah, F0, H0, F, ρ, hs, out, hs', I, q, f⟩ := h
  obtain ⟨p, h1, q1, q⟩ := M.bind_ok q
  obtain ⟨o, h2, q2, q⟩ := M.bind_ok q
  obtain ⟨y, h3, q3, q⟩ := M.bind_ok q
  obtain ⟨k, h4, q4, qa⟩ := M.bind_ok q
  clear q
  obtain ⟨rfl, rfl⟩ := asInt_ok q4
  obtain rfl : o = .hand := by cases o <;> first | rfl | (cases qa; done)
  obtain ⟨hh, h6, q6, qb⟩ := M.bind_ok qa
  cases M.get_ok q6
  obtain ⟨j, h7, q7, qc⟩ := M.bind_ok qb
  obtain ⟨ej, e'⟩ := M.lift_ok q7
  cases e'
  obtain ⟨u, h8, q8, q⟩ := M.bind_ok qc
  cases M.set_ok q8
  cases M.pure_ok q
  refine ⟨ah, F, _, ρ, _, p, _, I.gi, I.er, q1, fun F1 H1 v x1 G1 r1 => ?_⟩
  have I1 := I.step x1 G1
  refine ⟨ah, F1, _, ρ, _, _, _, I1.gi, I1.er, q2, fun F2 H2 v2 x2 G2 r2 => ?_⟩
  have I2 := I1.step x2 G2
  refine ⟨ah, F2, _, ρ, _, _, _, I2.gi, I2.er, q3, fun F3 H3 v3 x3 G3 r3 => ?_⟩
  have I3 := I2.step x3 G3
  cases r3
  have k3 := ((I.gi.kp x1).trans (I1.gi.kp x2)).trans (I2.gi.kp x3)
  cases r2 with
  | hand eh =>
    rename_i a
    obtain ⟨nf, vs, h, z, r⟩ := G3.at_ a eh
    have kp : Kp X.K F3 H3 F3 (upd H3 a (.lst (vs.set j v))) := .own h nf
    refine ⟨a, vs, _, j, rfl, rfl, h, by rw [r.length]; exact ej, f F3 _ σ ⟨I3.g0, ⟨I3.ext.mono, I3.ext.new, fun b u n q => ?_⟩, ⟨fun b fb z => ?_, fun b eb => ?_⟩, ⟨fun i s e => ?_, I3.er.apart, I3.er.len⟩⟩ (k3.trans kp)⟩
    · rw [upd_ne (fun z => n (by rw [z]; exact eh))]; exact I3.ext.keep b u n q
    · rw [upd_ne (fun z : b = a => nf (by rw [← z]; exact fb))] at z; exact G3.fin b fb z
    · rw [eh] at eb
      cases eb
      exact ⟨nf, _, upd_same, by rw [List.length_set]; exact z, (r.set ((r1.mono (I1.gi.kp x2)).mono (I2.gi.kp x3)) j).mono kp⟩
    · have q := I3.er.at_ i s e
      generalize ew : σ[i]? = w at q
      cases q with
      | un => exact .un _
      | fz r => exact .fz (r.mono kp)
      | ow f n k o' =>
        rename_i b p'
        have hb : b ≠ a := fun z => n (by rw [z]; exact eh)
        refine .ow f n k ?_
        cases o' with
        | lst h z r => exact .lst (by rw [upd_ne hb]; exact h) z (r.mono kp)
        | dK h z k r => exact .dK (by rw [upd_ne hb]; exact h) z k (r.mono kp)
        | dT h z k r => exact .dT (by rw [upd_ne hb]; exact h) z k (r.mono kp)
/-- y = x.pop() -/
def sPop (i j : Nat) : SM := fun ρ => do
  let l ← ownL ρ[i]?
  let p ← liftO l[l.length - 1]?
  pure (.nx ((ρ.set i (.ow (.lst l.dropLast))).set j (.fz p)))
theorem pop_w (D : Ends) (σ : L2.St) (H : Hp) (h : tSS X.K (sPop i j) D σ H) : tAsg (tBM0 X.K "list" rPop (tVar i)) (gName j) D σ H := by
  obtain ⟨ah, F0, H0, F, ρ, hs, out, hs', I, q, f⟩ := h
  obtain ⟨l, h1, q1, q⟩ := M.bind_ok q
  obtain ⟨p, h2, q2, q⟩ := M.bind_ok q
  cases M.pure_ok q
  obtain ⟨e, e'⟩ := ownL_ok q1
  subst e'
  obtain ⟨ep, e'⟩ := M.lift_ok q2
  cases e'
  obtain ⟨a, vs, ea, nf, na, n0, h, z, r⟩ := I.er.ownL e
  obtain ⟨I2, k2⟩ := I.updL (vs := vs.dropLast) (ps := l.dropLast) e ea nf na n0 h (by rw [List.length_dropLast]; omega) r.dropLast
  obtain ⟨v, ev, rv⟩ := r.get ep
  refine ⟨_, ea, tyV_lst h, a, vs, v, rfl, rfl, h, by rw [r.length]; exact ev, ?_⟩
  exact f F _ _ ⟨I2.g0, I2.ext, I2.gi, I2.er.setF (rv.mono k2)⟩ k2
end
end SL

end
section
namespace SL
open PySem PySem.Spec PyProof.Rows L2
/-! ### a def that hands back a new thing -/
def spF (K : Fg) (n : Nat) (m : List PV → M PV) : Sp := fun vs H Q _ => vs.length = n ∧ ∃ ah F ps hs p hs', GI K ah F H hs ∧ Reps K ah F H vs ps ∧ m ps hs = .ok (p, hs') ∧
  ∀ F' H' a, Ext K ah F H F' H' → GI K ah F' H' hs' → H a = none → ¬ F' a → Own K ah F' H' a p → Q (.ref a) H'
def KnownF (P : Program) (w : World) (K : Fg) (mg : Str → Option Value) (base : Heap) (x : Str) (n k : Nat) (m : List PV → M PV) : Prop :=
  ∃ f fd ps, mg x = some (.ref f) ∧ PySem.W.keepIn K (.ref f) = true ∧ L2.Binds K fd ps [] ∧ FnOk P w K mg base CX0 k f fd ps (spF K n m)
def fnF (nl : Nat) (g : SM) : List PV → M PV := fun ps => do
  let o ← g (ev0 nl ps)
  match o with
  | .rtF p => pure p
  | _ => stuck
section
variable {X : Cx} {e a b c : Expr} {es rest : List Expr} {p pos : Pos} {g ga gb gc : EM} {gs : Ev → M (List PV)} {x : Str} {n k : Nat} {m : List PV → M PV}
theorem sf_call (h : KnownF X.prog X.w X.K X.mg X.base x n k m) (hr : Room k X.A) (ha : SA X (e :: es) gs) (hn : Rows gs n) (hg : Gl X x := by rfl) (hdb : (x == ("__debug__" : Str)) = false := by decide)
    (he : starEach (e :: es) X.env = (false, eval e X.env) :: starEach es X.env := by rfl) (hpl : (backTo pos (starEach es X.env)).any (·.1) = false := by rfl) : SF X (.Call (.Name x p) (e :: es) [] pos) (gB m gs) := by
  obtain ⟨f, fd, ps, hm, hk, hb, F⟩ := h
  refine PE.wk (pe_call F hr hg hm hk hb .nil pass0 ha hdb he hpl) fun σ H Q ⟨ah, F, N, ρ, hs, p, hs', G, E, q, k⟩ => ?_
  obtain ⟨x, h1, q1, q⟩ := M.bind_ok q
  refine ⟨ah, F, N, ρ, hs, x, h1, G, E, q1, fun F1 H1 v1 x1 G1 r1 => ?_⟩
  refine ⟨?_, ah, F1, x, h1, p, hs', G1, ?_, q, fun F2 H2 a x2 G2 n nf o => k F2 H2 a (x1.trans G G1 x2) G2 (x1.free G n (G1.ne n)) nf o⟩
  · rw [List.append_nil, r1.length]; exact hn _ _ _ _ q1
  · rw [List.append_nil]; exact r1
end
section
variable {P : Program} {w : World} {K : PySem.W.Frag} {mg : Str → Option Value} {base : Heap}
theorem ok_fnF {x qual : Str} {st : Stmt} {f : Addr} {fd : FuncData} {Ns ps : List Str} {k : Nat} {g : SM} (Fu : Fun K x qual st f fd) (S : FnScope Ns ps (defScope st))
    (hb : ∀ (cdv : Value) (A : Around) (outer : List Env) (s : Shared) (H : Hp) (E : XK), Room k (A.deeper (envOfC qual (defScope st) s.heap.objs.size f cdv)) → SSs (cxOf CX0 P w K mg base Ns qual (defScope st) f cdv A outer s H E).nox (defBody st) g) :
    FnOk P w K mg base CX0 (k + 1) f fd ps (spF K ps.length (fnF Ns.length g)) := by
  refine Fu.ok S (fun vs H Q E h => h.1) fun cdv A outer s H vs Q E hr h => ⟨_, hb cdv A outer s H E hr, ?_⟩
  obtain ⟨hl, ah, F, qs, hs, p, hs', G, r, q, k⟩ := h
  obtain ⟨o, h1, q1, q⟩ := M.bind_ok q
  refine ⟨ah, F, H, F, ev0 Ns.length qs, hs, o, h1, ⟨⟨hs, G⟩, .refl, G, er_start r⟩, q1, ?_⟩
  cases o with
  | rtF p => cases M.pure_ok q; exact fun F' H' a x' G' n nf o => k F' H' a x' G' n nf o
  | _ => cases q
theorem knownF {x qual : Str} {st : Stmt} {f : Addr} {fd : FuncData} {Ns ps : List Str} {k n : Nat} {g : SM} (hm : mg x = some (.ref f)) (Fu : Fun K x qual st f fd) (b : L2.Binds K fd ps []) (S : FnScope Ns ps (defScope st)) (hn : ps.length = n)
    (hb : ∀ (cdv : Value) (A : Around) (outer : List Env) (s : Shared) (H : Hp) (E : XK), Room k (A.deeper (envOfC qual (defScope st) s.heap.objs.size f cdv)) → SSs (cxOf CX0 P w K mg base Ns qual (defScope st) f cdv A outer s H E).nox (defBody st) g) :
    KnownF P w K mg base x n (k + 1) (fnF Ns.length g) := ⟨f, fd, ps, hm, Fu.kp, b, by rw [← hn]; exact ok_fnF Fu S hb⟩
end

/-! ### the law's hand comes -/
mutual
theorem Rep.hd {K : Fg} {ah : Option Addr} {F : Addr → Prop} {H : Hp} : ∀ {v : V} {p : PV}, Rep K none F H v p → Rep K ah F H v p
  | _, _, .non => .non
  | _, _, .bl b => .bl b
  | _, _, .int i => .int i
  | _, _, .str x => .str x
  | _, _, .ty n => .ty n
  | _, _, .hand e => by cases e
  | _, _, .tup h z r => .tup h z (Reps.hd r)
  | _, _, .lst f h z r => .lst f h z (Reps.hd r)
  | _, _, .scr h z => .scr h z
  | _, _, .dK f h z e r => .dK f h z e (Reps.hd r)
  | _, _, .dT f h z e r => .dT f h z e (Reps.hd r)
theorem Reps.hd {K : Fg} {ah : Option Addr} {F : Addr → Prop} {H : Hp} : ∀ {vs : List V} {ps : List PV}, Reps K none F H vs ps → Reps K ah F H vs ps
  | _, _, .nil => .nil
  | _, _, .cons r t => .cons (Rep.hd r) (Reps.hd t)
end
def noOwn (i : Nat) (ρ : Ev) : Bool := (List.range ρ.length).all fun j => j == i || match ρ[j]? with
  | some (.ow _) => false
  | _ => true
theorem noOwn_ok {i j : Nat} {ρ : Ev} {p : PV} (h : noOwn i ρ = true) (e : ρ[j]? = some (.ow p)) : j = i := by
  unfold noOwn at h
  rw [List.all_eq_true] at h
  have hlt : j < ρ.length := (List.getElem?_eq_some_iff.mp e).1
  have q := h j (List.mem_range.mpr hlt)
  rw [e] at q
  simpa using q
/-- slot i holds the hand from here on -/
def sHand (i : Nat) (g : SM) : SM := fun ρ => do
  let l ← ownL ρ[i]?
  guardM (noOwn i ρ = true) (do
    set l
    let o ← g (ρ.set i (.fz .hand))
    match o with
    | .rt (.bl b) => pure (.rt (.bl b))
    | _ => stuck)
/-- outside: no hand -/
def tSN (K : Fg) (g : SM) : TS := fun D σ H => ∃ F0 H0 F ρ hs out hs', SInv K none F0 H0 F H σ ρ hs ∧ g ρ hs = .ok (out, hs') ∧ Fin K none F0 H0 F H D hs' out
theorem sss_hand {X : Cx} {sts : List Stmt} {g : SM} (i : Nat) (h : SSs X sts g) : PSs X sts (tSN X.K (sHand i g)) := PSs.wk h fun D σ H ⟨F0, H0, F, ρ, hs, out, hs', I, q, f⟩ => by
  obtain ⟨l, h1, q1, qa⟩ := M.bind_ok q
  obtain ⟨hno, qb⟩ := guard_ok qa
  obtain ⟨u, h2, q2, qc⟩ := M.bind_ok qb
  cases M.set_ok q2
  obtain ⟨o, h3, q3, qd⟩ := M.bind_ok qc
  obtain ⟨e, e'⟩ := ownL_ok q1
  subst e'
  obtain ⟨a, vs, ea, nf, na, n0, h, z, r⟩ := I.er.ownL e
  have hlt : i < ρ.length := (List.getElem?_eq_some_iff.mp e).1
  have G1 : GI X.K (some a) F H l := ⟨I.gi.fin, fun b eb => by cases eb; exact ⟨nf, vs, h, z, r.hd⟩⟩
  have no : ∀ {j : Nat} {p : PV}, (ρ.set i (.fz .hand))[j]? = some (.ow p) → False := fun {j p} ej => by
    by_cases hj : i = j
    · subst hj
      rw [List.getElem?_set_self hlt] at ej; cases ej
    · rw [List.getElem?_set_ne hj] at ej
      exact hj (noOwn_ok hno ej).symm
  refine ⟨some a, F, H, F, ρ.set i (.fz .hand), l, o, h3, ⟨⟨l, G1⟩, .refl, G1, ⟨fun j s ej => ?_, fun j k p q ne e1 e2 => (no e1).elim, by rw [List.length_set]; exact I.er.len⟩⟩, q3, ?_⟩
  · by_cases hj : i = j
    · subst hj
      rw [List.getElem?_set_self hlt] at ej
      cases ej
      rw [ea]
      exact .fz (.hand rfl)
    · have ej' := ej
      rw [List.getElem?_set_ne hj] at ej
      have q := I.er.at_ j s ej
      generalize ew : σ[j]? = w at q
      cases q with
      | un => exact .un _
      | fz r => exact .fz r.hd
      | ow f n k o' => exact (no ej').elim
  · split at qd
    · cases M.pure_ok qd
      refine fun F' H' v x' G' r' => f F' H' v ⟨fun b fb => x'.mono b (I.ext.mono b fb), fun b fb => ?_, fun b u _ hb => ?_⟩ ⟨G'.fin, fun b eb => by cases eb⟩ ?_
      · rcases x'.new b fb with k | k
        · exact I.ext.new b k
        · exact .inr (I.new k)
      · refine x'.keep b u (fun z => ?_) (I.ext.keep b u (by simp) hb)
        cases z
        rw [n0] at hb; cases hb
      · cases r'; exact .bl _
    · cases qd
/-- the law -/
def spN (K : Fg) (m : List PV → M PV) : Sp := fun vs H Q _ => vs.length = 1 ∧ ∃ F ps p hs', GI K none F H [] ∧ Reps K none F H vs ps ∧ m ps [] = .ok (p, hs') ∧
  ∀ F' H' v, Ext K none F H F' H' → GI K none F' H' hs' → Rep K none F' H' v p → Q v H'
section
variable {P : Program} {w : World} {K : PySem.W.Frag} {mg : Str → Option Value} {base : Heap}
/-- the law's body: hand = .. ahead, then what is told by s2 -/
theorem ok_law {x qual : Str} {st s0 : Stmt} {sts : List Stmt} {f : Addr} {fd : FuncData} {Ns : List Str} {k : Nat} {g s2 : SM} (i : Nat) (Fu : Fun K x qual st f fd) (S : FnScope Ns ["script"] (defScope st)) (hd : defBody st = s0 :: sts)
    (h1 : ∀ (cdv : Value) (A : Around) (outer : List Env) (s : Shared) (H : Hp) (E : XK), Room k (A.deeper (envOfC qual (defScope st) s.heap.objs.size f cdv)) → SS (cxOf CX0 P w K mg base Ns qual (defScope st) f cdv A outer s H E).nox s0 g)
    (h2 : ∀ (cdv : Value) (A : Around) (outer : List Env) (s : Shared) (H : Hp) (E : XK), Room k (A.deeper (envOfC qual (defScope st) s.heap.objs.size f cdv)) → SSs (cxOf CX0 P w K mg base Ns qual (defScope st) f cdv A outer s H E).nox sts s2) :
    FnOk P w K mg base CX0 (k + 1) f fd ["script"] (spN K (fnM Ns.length (sSeq g (sHand i s2)))) := by
  refine Fu.ok S (fun vs H Q E h => h.1) fun cdv A outer s H vs Q E hr h => ⟨_, by rw [hd]; exact pss_cons (h1 cdv A outer s H E hr) (sss_hand i (h2 cdv A outer s H E hr)), ?_⟩
  obtain ⟨hl, F, qs, p, hs', G, r, q, k⟩ := h
  obtain ⟨o, h3, q1, q⟩ := M.bind_ok q
  obtain ⟨o1, h4, q2, q3⟩ := M.bind_ok q1
  refine ⟨none, F, H, F, ev0 Ns.length qs, [], o1, h4, ⟨⟨[], G⟩, .refl, G, er_start r⟩, q2, ?_⟩
  have fin : Fin K none F H F H { nx := fun _ H' => Q .non H', rt := Q } h3 o := by
    cases o with
    | nx ρ => cases M.pure_ok q; exact fun F' H' σ' I' _ => k F' H' _ I'.ext I'.gi .non
    | rt p => cases M.pure_ok q; exact fun F' H' v x' G' r' => k F' H' v x' G' r'
    | _ => cases q
  cases o1 with
  | nx ρ1 => exact fun F1 H1 σ1 I1 k1 => ⟨F, H, F1, ρ1, h4, o, h3, I1, q3, fin.kp k1⟩
  | rt p1 => cases M.pure_ok q3; exact fin
  | rtF p1 => cases M.pure_ok q3; exact fin
  | bk ρ1 => cases M.pure_ok q3; cases q
  | ct ρ1 => cases M.pure_ok q3; cases q
end
theorem law_sp {K : Fg} {m : List PV → M PV} {H : Hp} {a : Addr} {ns : List Int} {E : XK} (hl : ns.length ≤ 63) (hO : Only H) (hS : SqL K H a (ns.map V.int)) (hm : ∃ hs', m [.scr ns] [] = .ok (.bl true, hs')) : spN K m [.ref a] H (fun v _ => v = .bl true) E := by
  obtain ⟨hs', hm⟩ := hm
  refine ⟨rfl, fun _ => False, [.scr ns], .bl true, hs', ⟨fun _ f => f.elim, fun b e => by cases e⟩, .cons (.scr ?_ (by rw [szE]; show ns.length ≤ 16777216; omega)) .nil, hm, fun F' H' v _ _ r => by cases r; rfl⟩
  rcases hS with (h | h) | h
  · rcases hO a with z | ⟨o, xs, z⟩
    · rw [z] at h; cases h
    · rw [z] at h; cases h
  · exact .inr (.inl h)
  · exact .inr (.inr h)
end SL

end
section
namespace SL
open PySem PySem.Spec PyProof.Rows L2
def gNeg (ga : EM) : EM := fun ρ => do
    let x ← ga ρ
    match x with
    | .int i => pure (.int (-i))
    | _ => stuck
section
variable {X : Cx} {e a b c : Expr} {es rest : List Expr} {p p1 p2 p3 pos : Pos} {g ga gb gc gi : EM} {gs : Ev → M (List PV)} {x y : Str}
/-! ### builtins by name -/
theorem se_len (hm : X.mg "len" = none) (ha : SAB X (e :: es) gs) (hg : Gl X "len" := by rfl) (he : starEach (e :: es) X.env = (false, eval e X.env) :: starEach es X.env := by rfl) (hpl : (backTo pos (starEach es X.env)).any (·.1) = false := by rfl) : SE X (.Call (.Name "len" p) (e :: es) [] pos) (gB pLen gs) :=
  se_B cs_len (pe_callB call_len_seq hg hm PySem.boot_len ha (by decide) (by decide) he hpl)
theorem se_abs (hm : X.mg "abs" = none) (ha : SAB X (e :: es) gs) (hg : Gl X "abs" := by rfl) (he : starEach (e :: es) X.env = (false, eval e X.env) :: starEach es X.env := by rfl) (hpl : (backTo pos (starEach es X.env)).any (·.1) = false := by rfl) : SE X (.Call (.Name "abs" p) (e :: es) [] pos) (gB pAbs gs) :=
  se_B cs_abs (pe_callB call_abs hg hm (by decide +kernel) ha (by decide) (by decide) he hpl)
theorem se_intc (hm : X.mg "int" = none) (ha : SAB X (e :: es) gs) (hg : Gl X "int" := by rfl) (he : starEach (e :: es) X.env = (false, eval e X.env) :: starEach es X.env := by rfl) (hpl : (backTo pos (starEach es X.env)).any (·.1) = false := by rfl) : SE X (.Call (.Name "int" p) (e :: es) [] pos) (gB pInt gs) :=
  se_B cs_int (pe_callTy call_int1 hg hm (by decide +kernel) ha (by decide) (by decide) he hpl)
theorem se_tuplec (hm : X.mg "tuple" = none) (ha : SAB X (e :: es) gs) (hg : Gl X "tuple" := by rfl) (he : starEach (e :: es) X.env = (false, eval e X.env) :: starEach es X.env := by rfl) (hpl : (backTo pos (starEach es X.env)).any (·.1) = false := by rfl) : SE X (.Call (.Name "tuple" p) (e :: es) [] pos) (gB pTuple gs) :=
  se_B cs_tuple (pe_callTy call_tuple_of hg hm (by decide +kernel) ha (by decide) (by decide) he hpl)
theorem sf_listc (hm : X.mg "list" = none) (ha : SAB X (e :: es) gs) (hg : Gl X "list" := by rfl) (he : starEach (e :: es) X.env = (false, eval e X.env) :: starEach es X.env := by rfl) (hpl : (backTo pos (starEach es X.env)).any (·.1) = false := by rfl) : SF X (.Call (.Name "list" p) (e :: es) [] pos) (gB pList gs) :=
  sf_B cf_list (pe_callTy call_list_of hg hm (by decide +kernel) ha (by decide) (by decide) he hpl)
theorem se_all (hm : X.mg "all" = none) (ha : SAB X (e :: es) gs) (hc : X.calm = true := by rfl) (hg : Gl X "all" := by rfl) (he : starEach (e :: es) X.env = (false, eval e X.env) :: starEach es X.env := by rfl) (hpl : (backTo pos (starEach es X.env)).any (·.1) = false := by rfl) : SE X (.Call (.Name "all" p) (e :: es) [] pos) (gB pAll gs) :=
  se_B cs_all (pe_callB (cr_all hc) hg hm (by decide +kernel) ha (by decide) (by decide) he hpl)
theorem se_any (hm : X.mg "any" = none) (ha : SAB X (e :: es) gs) (hc : X.calm = true := by rfl) (hg : Gl X "any" := by rfl) (he : starEach (e :: es) X.env = (false, eval e X.env) :: starEach es X.env := by rfl) (hpl : (backTo pos (starEach es X.env)).any (·.1) = false := by rfl) : SE X (.Call (.Name "any" p) (e :: es) [] pos) (gB pAny gs) :=
  se_B cs_any (pe_callB (cr_any hc) hg hm (by decide +kernel) ha (by decide) (by decide) he hpl)
theorem se_sum (hm : X.mg "sum" = none) (ha : SAB X (e :: es) gs) (hc : X.calm = true := by rfl) (hg : Gl X "sum" := by rfl) (he : starEach (e :: es) X.env = (false, eval e X.env) :: starEach es X.env := by rfl) (hpl : (backTo pos (starEach es X.env)).any (·.1) = false := by rfl) : SE X (.Call (.Name "sum" p) (e :: es) [] pos) (gB pSum gs) :=
  se_B cs_sum (pe_callB (cr_sum hc) hg hm (by decide +kernel) ha (by decide) (by decide) he hpl)
theorem se_max2 (hm : X.mg "max" = none) (ha : SAB X (e :: es) gs) (hc : X.calm = true := by rfl) (hg : Gl X "max" := by rfl) (he : starEach (e :: es) X.env = (false, eval e X.env) :: starEach es X.env := by rfl) (hpl : (backTo pos (starEach es X.env)).any (·.1) = false := by rfl) : SE X (.Call (.Name "max" p) (e :: es) [] pos) (gB pMax2 gs) :=
  se_B cs_max2 (pe_callB (call_max2 hc) hg hm (by decide +kernel) ha (by decide) (by decide) he hpl)
theorem se_min2 (hm : X.mg "min" = none) (ha : SAB X (e :: es) gs) (hc : X.calm = true := by rfl) (hg : Gl X "min" := by rfl) (he : starEach (e :: es) X.env = (false, eval e X.env) :: starEach es X.env := by rfl) (hpl : (backTo pos (starEach es X.env)).any (·.1) = false := by rfl) : SE X (.Call (.Name "min" p) (e :: es) [] pos) (gB pMin2 gs) :=
  se_B cs_min2 (pe_callB (call_min2 hc) hg hm (by decide +kernel) ha (by decide) (by decide) he hpl)
/-- a built-in class named -/
theorem cl_int (hm : X.mg "int" = none) (hg : Gl X "int" := by rfl) : PE X (.Name "int" pos) (tC (.ty Cl.int.name)) := pe_bltn hg hm (u := .type "int") (by decide +kernel) rfl
theorem cl_bool (hm : X.mg "bool" = none) (hg : Gl X "bool" := by rfl) : PE X (.Name "bool" pos) (tC (.ty Cl.bool.name)) := pe_bltn hg hm (u := .type "bool") (by decide +kernel) rfl
theorem cl_str (hm : X.mg "str" = none) (hg : Gl X "str" := by rfl) : PE X (.Name "str" pos) (tC (.ty Cl.str.name)) := pe_bltn hg hm (u := .type "str") (by decide +kernel) rfl
theorem cl_tuple (hm : X.mg "tuple" = none) (hg : Gl X "tuple" := by rfl) : PE X (.Name "tuple" pos) (tC (.ty Cl.tuple.name)) := pe_bltn hg hm (u := .type "tuple") (by decide +kernel) rfl
theorem cl_list (hm : X.mg "list" = none) (hg : Gl X "list" := by rfl) : PE X (.Name "list" pos) (tC (.ty Cl.list.name)) := pe_bltn hg hm (u := .type "list") (by decide +kernel) rfl
theorem cl_dict (hm : X.mg "dict" = none) (hg : Gl X "dict" := by rfl) : PE X (.Name "dict" pos) (tC (.ty Cl.dict.name)) := pe_bltn hg hm (u := .type "dict") (by decide +kernel) rfl
/-- a module's constant -/
theorem se_ci {i : Int} (hm : ∃ t, X.mg x = some (.int i t)) (hg : Gl X x := by rfl) (hd : (x == ("__debug__" : Str)) = false := by decide) : SE X (.Name x pos) (gC (.int i)) := by
  obtain ⟨t, hm⟩ := hm
  exact se_gint hm hg hd
theorem se_cs {i : Str} (hm : ∃ t, X.mg x = some (.str i t)) (hg : Gl X x := by rfl) (hd : (x == ("__debug__" : Str)) = false := by decide) : SE X (.Name x pos) (gC (.str i)) := by
  obtain ⟨t, hm⟩ := hm
  exact se_gstr hm hg hd
/-! ### statements over own lists -/
theorem ss_app {i : Nat} (hx : PE X (.Name x p) (tVar i)) (he : SE X e g) (hs : swapsWith (.Call (.Attribute (.Name x p) "append" p1) [e] [] p2) none pos.line X.env = pure false := by rfl)
    (hbase : attributeBase (.Name x p) "append" X.env (eval (.Name x p) X.env) = eval (.Name x p) X.env := by rfl)
    (hfew : ((backTo p2 (starEach [e] X.env)).all (fun x => !x.1) && (backToKw p2 (keywordEach [] X.env)).all (fun x => x.1.isSome) && decide (([e] : List Expr).length + ([] : List Keyword).length + (if ([] : List Keyword).isEmpty then 0 else 1) < 30)) = true := by rfl)
    (hline : (p1.endLine == p2.line) = true := by rfl) (h1 : starEach [e] X.env = (false, eval e X.env) :: starEach [] X.env := by rfl) : SS X (.Expr (.Call (.Attribute (.Name x p) "append" p1) [e] [] p2) pos) (sApp i g) :=
  PS.wk (ps_expr (pe_bm PySem.F.plainAttrs_list PySem.F.slot_list_append PySem.F.type_list_append mt_append hx (pa_cons he pa_nil h1) hbase hfew hline h1) hs) app_w
theorem ss_ext {i : Nat} (hx : PE X (.Name x p) (tVar i)) (he : SE X e g) (hs : swapsWith (.Call (.Attribute (.Name x p) "extend" p1) [e] [] p2) none pos.line X.env = pure false := by rfl)
    (hbase : attributeBase (.Name x p) "extend" X.env (eval (.Name x p) X.env) = eval (.Name x p) X.env := by rfl)
    (hfew : ((backTo p2 (starEach [e] X.env)).all (fun x => !x.1) && (backToKw p2 (keywordEach [] X.env)).all (fun x => x.1.isSome) && decide (([e] : List Expr).length + ([] : List Keyword).length + (if ([] : List Keyword).isEmpty then 0 else 1) < 30)) = true := by rfl)
    (hline : (p1.endLine == p2.line) = true := by rfl) (h1 : starEach [e] X.env = (false, eval e X.env) :: starEach [] X.env := by rfl) : SS X (.Expr (.Call (.Attribute (.Name x p) "extend" p1) [e] [] p2) pos) (sExt i g) :=
  PS.wk (ps_expr (pe_bm PySem.F.plainAttrs_list PySem.F.slot_list_extend PySem.F.type_list_extend mt_extend hx (pa_cons he pa_nil h1) hbase hfew hline h1) hs) ext_w
theorem ss_pop {i j : Nat} (hx : PE X (.Name x p) (tVar i)) (hy : PG X (.Name y p3) (gName j)) (hbase : attributeBase (.Name x p) "pop" X.env (eval (.Name x p) X.env) = eval (.Name x p) X.env := by rfl) (hline : (p1.endLine == p2.line) = true := by rfl)
    (hs : swapsWithSole [.Name y p3] (.Call (.Attribute (.Name x p) "pop" p1) [] [] p2) pos.line X.env = pure false := by rfl) (hw : swappedStores [.Name y p3] (.Call (.Attribute (.Name x p) "pop" p1) [] [] p2) X.env = pure none := by rfl)
    (h1 : (assignEach [.Name y p3] X.env).map (·.2) = [assign (.Name y p3) X.env] := by rfl) : SS X (.Assign [.Name y p3] (.Call (.Attribute (.Name x p) "pop" p1) [] [] p2) pos) (sPop i j) :=
  PS.wk (ps_asg (pe_bm0 PySem.F.plainAttrs_list PySem.F.slot_list_pop PySem.F.type_list_pop mt_pop hx hbase hline) hy hs hw h1) pop_w
theorem ss_set {i : Nat} (hx : PE X (.Name x p) (tVar i)) (hi : SE X a gi) (he : SE X e g) (hs : swapsWithSole [.Subscript (.Name x p) a p1] e pos.line X.env = pure false := by rfl) (hw : swappedStores [.Subscript (.Name x p) a p1] e X.env = pure none := by rfl)
    (h1 : (assignEach [.Subscript (.Name x p) a p1] X.env).map (·.2) = [assign (.Subscript (.Name x p) a p1) X.env] := by rfl)
    (ha : ∀ v, assign (.Subscript (.Name x p) a p1) X.env v = (do
      let ov ← holding [v] (eval (.Name x p) X.env)
      let iv ← holding [v, ov] (eval a X.env)
      standAt p1
      holding [v, ov, iv] (setItem ov iv v)
      release [v, ov, iv] []) := by intro _; rfl) : SS X (.Assign [.Subscript (.Name x p) a p1] e pos) (sSet i gi g) := PS.wk (ps_asg he (pg_sub hx hi set_list ha) hs hw h1) set_w
theorem ss_seth {go : EM} (hx : SE X (.Name x p) go) (hi : SE X a gi) (he : SE X e g) (hs : swapsWithSole [.Subscript (.Name x p) a p1] e pos.line X.env = pure false := by rfl) (hw : swappedStores [.Subscript (.Name x p) a p1] e X.env = pure none := by rfl)
    (h1 : (assignEach [.Subscript (.Name x p) a p1] X.env).map (·.2) = [assign (.Subscript (.Name x p) a p1) X.env] := by rfl)
    (ha : ∀ v, assign (.Subscript (.Name x p) a p1) X.env v = (do
      let ov ← holding [v] (eval (.Name x p) X.env)
      let iv ← holding [v, ov] (eval a X.env)
      standAt p1
      holding [v, ov, iv] (setItem ov iv v)
      release [v, ov, iv] []) := by intro _; rfl) : SS X (.Assign [.Subscript (.Name x p) a p1] e pos) (sSetH go gi g) := PS.wk (ps_asg he (pg_sub hx hi set_list ha) hs hw h1) seth_w
/-- a, b = e1, e2: plain locals -/
def sPar (i j : Nat) (gs : Ev → M (List PV)) : SM := fun ρ => do
  let ps ← gs ρ
  match ps with
  | [p, q] => pure (.nx ((ρ.set i (.fz p)).set j (.fz q)))
  | _ => stuck
theorem ss_par {i j : Nat} {px py pt : Pos} {kt k2 : Nat} {pt2 : Pos} (hN : X.N.Nodup) (hi : X.N[i]? = some x) (hj : X.N[j]? = some y) (hij : i ≠ j)
    (hx : X.env.scope.names.lookup x = some .local) (hy : X.env.scope.names.lookup y = some .local) (ha : SA X [a, b] gs) (hn : Rows gs 2)
    (hw : swappedStores [.Tuple [.Name x px, .Name y py] kt pt] (.Tuple [a, b] k2 pt2) X.env = pure (some [x, y]))
    (hs : swapsWithSole [.Tuple [.Name x px, .Name y py] kt pt] (.Tuple [a, b] k2 pt2) pos.line X.env = pure false := by rfl) (hc : X.calm = true := by rfl) :
    SS X (.Assign [.Tuple [.Name x px, .Name y py] kt pt] (.Tuple [a, b] k2 pt2) pos) (sPar i j gs) := PS.wk (ps_par hc hN hi hj hij hx hy ha hw hs) fun D σ H ⟨ah, F0, H0, F, ρ, hs, out, hs', I, q, f⟩ => by
  obtain ⟨ps, h1, q1, q⟩ := M.bind_ok q
  have hl := hn _ _ _ _ q1
  match ps, hl with
  | [p, q'], _ =>
    cases M.pure_ok q
    refine ⟨ah, F, _, ρ, hs, _, _, I.gi, I.er, q1, fun F1 H1 v x1 G1 r1 => ?_⟩
    have I1 := I.step x1 G1
    cases r1 with
    | cons r t =>
      cases t with
      | cons r2 t =>
        cases t
        exact ⟨_, _, rfl, f F1 H1 _ ⟨I1.g0, I1.ext, G1, (I1.er.setF r).setF r2⟩ (I.gi.kp x1)⟩
/-- x = [comprehension], x a plain local: the two are one step -/
theorem ss_ownLc {i : Nat} {py spos : Pos} {elt tg iter : Expr} {ifs : List Expr} {scope : Scope} {own : List (Str × Nat)} {gi : IM} {gt : GM} {tt : TM} {ge : EM} {is : List Nat} (hN : X.N.Nodup) (ok : BlkOk X.N X.env.scope scope own)
    (hi : SI X tg iter gi) (hg : ∀ (s : Shared) (H : Hp) (C : Addr) (cl : List (Str × Addr)) (fp : List Addr), SG (X.blk s H scope (compEnvC scope cl C X.env) fp) tg gt is) (ht : ∀ (s : Shared) (H : Hp) (C : Addr) (cl : List (Str × Addr)) (fp : List Addr), STs (X.blk s H scope (compEnvC scope cl C X.env) fp) ifs tt)
    (he : ∀ (s : Shared) (H : Hp) (C : Addr) (cl : List (Str × Addr)) (fp : List Addr), SE (X.blk s H scope (compEnvC scope cl C X.env) fp) elt ge)
    (hy : X.N[i]? = some y) (hyl : X.env.scope.names.lookup y = some .local) (hsw : swapsWith (.ListComp elt [⟨tg, iter, ifs, 0⟩] scope pos) (some (.Name y py)) spos.line X.env = pure true) (hc : X.calm = true := by rfl) (hv : ∀ i ∈ is, i ∈ own.map (·.2) := by decide) (hs : ∀ x, foldedSetIterable iter X.env x = pure x := by intro _; rfl) :
    SS X (.Assign [.Name y py] (.ListComp elt [⟨tg, iter, ifs, 0⟩] scope pos) spos) (sOwn (gLc gi gt tt ge (own.map (·.2))) i) := PS.wk (ps_setLc hc hN hy hyl hsw hi ok hg ht he hs) (own_w (lc_w hv))
theorem sFz_w {te : TE} (w : ∀ σ H Q, tSF X.K g σ H Q → te σ H Q) (σ : L2.St) (H : Hp) (Q : VK) (h : tS X.K g σ H Q) : te σ H Q := by
  obtain ⟨ah, F, N, ρ, hs, p, hs', G, E, q, k⟩ := h
  refine w σ H Q ⟨ah, F, N, ρ, hs, p, hs', G, E, q, fun F' H' a x y n nf o => ?_⟩
  obtain ⟨u, hu⟩ := o.there
  exact k (fun b => F' b ∨ b = a) H' (.ref a) ⟨fun b h => .inl (x.mono b h), fun b h => h.elim (x.new b) fun e => .inr (e ▸ n), x.keep⟩ (y.frz hu (G.ne n)) o.frzn
theorem gname_w {te : TE} {i : Nat} (D : Ends) (σ : L2.St) (H : Hp) (w : ∀ σ H Q, tS X.K g σ H Q → te σ H Q) (h : tSS X.K (sAsg g (tgName i)) D σ H) : tAsg te (gName i) D σ H := by
  obtain ⟨ah, F0, H0, F, ρ, hs, out, hs', I, q, f⟩ := h
  obtain ⟨p, h1, q1, q⟩ := M.bind_ok q
  obtain ⟨ρ1, h2, q2, q⟩ := M.bind_ok q
  cases M.pure_ok q
  cases M.pure_ok q2
  refine w σ H _ ⟨ah, F, _, ρ, hs, p, _, I.gi, I.er, q1, fun F1 H1 v x1 G1 r1 => ?_⟩
  have I1 := I.step x1 G1
  exact f F1 H1 _ ⟨I1.g0, I1.ext, G1, I1.er.setF r1⟩ (I.gi.kp x1)
theorem ss_asgLc {i : Nat} {py spos : Pos} {elt tg iter : Expr} {ifs : List Expr} {scope : Scope} {own : List (Str × Nat)} {gi : IM} {gt : GM} {tt : TM} {ge : EM} {is : List Nat} (hN : X.N.Nodup) (ok : BlkOk X.N X.env.scope scope own)
    (hi : SI X tg iter gi) (hg : ∀ (s : Shared) (H : Hp) (C : Addr) (cl : List (Str × Addr)) (fp : List Addr), SG (X.blk s H scope (compEnvC scope cl C X.env) fp) tg gt is) (ht : ∀ (s : Shared) (H : Hp) (C : Addr) (cl : List (Str × Addr)) (fp : List Addr), STs (X.blk s H scope (compEnvC scope cl C X.env) fp) ifs tt)
    (he : ∀ (s : Shared) (H : Hp) (C : Addr) (cl : List (Str × Addr)) (fp : List Addr), SE (X.blk s H scope (compEnvC scope cl C X.env) fp) elt ge)
    (hy : X.N[i]? = some y) (hyl : X.env.scope.names.lookup y = some .local) (hsw : swapsWith (.ListComp elt [⟨tg, iter, ifs, 0⟩] scope pos) (some (.Name y py)) spos.line X.env = pure true) (hc : X.calm = true := by rfl) (hv : ∀ i ∈ is, i ∈ own.map (·.2) := by decide) (hs : ∀ x, foldedSetIterable iter X.env x = pure x := by intro _; rfl) :
    SS X (.Assign [.Name y py] (.ListComp elt [⟨tg, iter, ifs, 0⟩] scope pos) spos) (sAsg (gLc gi gt tt ge (own.map (·.2))) (tgName i)) := PS.wk (ps_setLc hc hN hy hyl hsw hi ok hg ht he hs) fun D σ H h => gname_w D σ H (sFz_w (lc_w hv)) h
end
/-- a def of the text as the top leaves it -/
def Fn (K : Fg) (mg : Str → Option Value) (x : Str) (st : Stmt) (ps : List Str) : Prop := ∃ f fd, mg x = some (.ref f) ∧ Fun K x x st f fd ∧ L2.Binds K fd ps []
end SL

end
section
namespace SL
open PySem PySem.Spec PyProof.Rows L2
/-! ### reckoning with mirrors -/
section
variable {α β : Type}
theorem stuck_bind (f : α → M β) : ((stuck : M α) >>= f) = stuck := rfl
theorem guardT {c : Prop} [Decidable c] {x : M α} (h : c) : guardM c x = x := if_pos h
theorem liftS (a : α) : (liftO (some a) : M α) = pure a := rfl
theorem liftN : (liftO (none : Option α) : M α) = stuck := rfl
/-- it ends well, and then Q -/
def Ok (x : M α) (Q : α → HS → Prop) (h : HS) : Prop := ∃ a h', x h = .ok (a, h') ∧ Q a h'
theorem Ok.bind {x : M α} {f : α → M β} {Q : β → HS → Prop} {h : HS} (k : Ok x (fun a h1 => Ok (f a) Q h1) h) : Ok (x >>= f) Q h := by
  obtain ⟨a, h1, e, b, h2, e2, q⟩ := k
  refine ⟨b, h2, ?_, q⟩
  show (Except.bind (x h) fun p => f p.1 p.2) = _
  rw [e]
  exact e2
theorem Ok.pure {a : α} {Q : α → HS → Prop} {h : HS} (q : Q a h) : Ok (pure a : M α) Q h := ⟨a, h, rfl, q⟩
theorem Ok.mono {x : M α} {Q R : α → HS → Prop} {h : HS} (k : Ok x Q h) (m : ∀ a h, Q a h → R a h) : Ok x R h := by
  obtain ⟨a, h1, e, q⟩ := k
  exact ⟨a, h1, e, m a h1 q⟩
theorem Ok.bind' {x : M α} {f : α → M β} {P : α → HS → Prop} {Q : β → HS → Prop} {h : HS} (k : Ok x P h) (m : ∀ a h1, P a h1 → Ok (f a) Q h1) : Ok (x >>= f) Q h := Ok.bind (k.mono m)
theorem Ok.get {Q : HS → HS → Prop} {h : HS} (q : Q h h) : Ok (MonadState.get : M HS) Q h := ⟨h, h, rfl, q⟩
theorem Ok.set {x : HS} {Q : PUnit → HS → Prop} {h : HS} (q : Q PUnit.unit x) : Ok (MonadStateOf.set x : M PUnit) Q h := ⟨_, x, rfl, q⟩
theorem Ok.of_eq {x y : M α} {Q : α → HS → Prop} {h : HS} (e : x = y) (k : Ok y Q h) : Ok x Q h := by rw [e]; exact k
end
/-! comprehensions -/
theorem lc_nil {gt : GM} {tt : TM} {ge : EM} {ρ : Ev} : lcF gt tt ge ρ [] = pure [] := rfl
/-- one that draws nothing -/
theorem lc_map {α : Type} {gt : GM} {tt : TM} {ge : EM} {ρ : Ev} {φ : α → PV} {ρ' : α → Ev} {c : α → Bool} {e : α → PV} : ∀ {l : List α}, (∀ x ∈ l, gt (φ x) ρ = pure (ρ' x) ∧ tt (ρ' x) = pure (c x) ∧ (c x = true → ge (ρ' x) = pure (e x))) →
    lcF gt tt ge ρ (l.map φ) = pure ((l.filter c).map e)
  | [], _ => rfl
  | x :: l, h => by
    obtain ⟨h1, h2, h3⟩ := h x List.mem_cons_self
    have ih := lc_map (l := l) fun y hy => h y (List.mem_cons_of_mem _ hy)
    rw [List.map_cons, lcF, h1, pure_bind, h2, pure_bind]
    cases hc : c x with
    | false =>
      rw [if_neg Bool.false_ne_true, ih, List.filter_cons_of_neg (by rw [hc]; exact Bool.false_ne_true)]
    | true =>
      rw [if_pos rfl, h3 hc, pure_bind, ih, pure_bind, List.filter_cons_of_pos hc]
      rfl
theorem lc_all {α : Type} {gt : GM} {ge : EM} {ρ : Ev} {φ : α → PV} {ρ' : α → Ev} {e : α → PV} {l : List α} (h : ∀ x ∈ l, gt (φ x) ρ = pure (ρ' x) ∧ ge (ρ' x) = pure (e x)) :
    lcF gt gYes ge ρ (l.map φ) = pure (l.map e) := by
  rw [lc_map (c := fun _ => true) (ρ' := ρ') (e := e) fun x hx => ⟨(h x hx).1, rfl, fun _ => (h x hx).2⟩, List.filter_eq_self.mpr (fun _ _ => rfl)]
/-- one that draws -/
theorem ok_lc {gt : GM} {ge : EM} {ρ : Ev} {I : HS → Prop} {R : PV → PV → Prop} : ∀ {ps : List PV} {h : HS}, I h → (∀ p ∈ ps, ∀ h, I h → ∃ ρ', gt p ρ = pure ρ' ∧ Ok (ge ρ') (fun y h' => R p y ∧ I h') h) →
    Ok (lcF gt gYes ge ρ ps) (fun ys h' => Paired R ps ys ∧ I h') h
  | [], h, hI, _ => Ok.pure ⟨.nil, hI⟩
  | p :: ps, h, hI, k => by
    obtain ⟨ρ', e, ok⟩ := k p List.mem_cons_self h hI
    rw [lcF, e, pure_bind]
    show Ok (pure true >>= _) _ h
    rw [pure_bind, if_pos rfl]
    refine ok.bind' fun y h1 ⟨hr, h1I⟩ => ?_
    refine (ok_lc h1I fun q hq => k q (List.mem_cons_of_mem _ hq)).bind' fun ys h2 ⟨hp, h2I⟩ => ?_
    exact Ok.pure ⟨.cons hr hp, h2I⟩
/-! loops -/
theorem forF_nil {gt : GM} {gb : SM} {ρ : Ev} : forF gt gb [] ρ = pure (.nx ρ) := rfl
theorem forF_cons {gt : GM} {gb : SM} {ρ : Ev} {p : PV} {ps : List PV} : forF gt gb (p :: ps) ρ = (gt p ρ >>= fun ρ1 => gb ρ1 >>= fun o => match o with
    | .nx ρ' => forF gt gb ps ρ'
    | .ct ρ' => forF gt gb ps ρ'
    | .bk ρ' => pure (.nx ρ')
    | o => pure o) := rfl
theorem ok_for {gt : GM} {gb : SM} {I : Ev → HS → Prop} : ∀ {ps : List PV} {ρ : Ev} {h : HS}, I ρ h → (∀ p ∈ ps, ∀ ρ h, I ρ h → Ok (gt p ρ >>= gb) (fun o h' => ∃ ρ', (o = .nx ρ' ∨ o = .ct ρ') ∧ I ρ' h') h) →
    Ok (forF gt gb ps ρ) (fun o h' => ∃ ρ', o = .nx ρ' ∧ I ρ' h') h
  | [], ρ, h, hI, _ => Ok.pure ⟨ρ, rfl, hI⟩
  | p :: ps, ρ, h, hI, k => by
    rw [forF, ← bind_assoc]
    refine (k p List.mem_cons_self ρ h hI).bind' fun o h1 ⟨ρ', e, h1I⟩ => ?_
    have ih := ok_for h1I fun q hq => k q (List.mem_cons_of_mem _ hq)
    rcases e with rfl | rfl
    · exact ih
    · exact ih
/-- a for that may leave: J holds between turns (with what is left), Q behind -/
theorem for_ind {gt : GM} {gb : SM} {J : List PV → Ev → HS → Prop} {Q : Out → HS → Prop} : ∀ {ps : List PV} {ρ : Ev} {h : HS}, J ps ρ h → (∀ ρ h, J [] ρ h → Q (.nx ρ) h) →
    (∀ p ps ρ h, J (p :: ps) ρ h → Ok (gt p ρ >>= gb) (fun o h' => match o with
      | .nx ρ' => J ps ρ' h'
      | .ct ρ' => J ps ρ' h'
      | .bk ρ' => Q (.nx ρ') h'
      | o => Q o h') h) → Ok (forF gt gb ps ρ) Q h
  | [], ρ, h, j, q, _ => Ok.pure (q ρ h j)
  | p :: ps, ρ, h, j, q, k => by
    rw [forF, ← bind_assoc]
    refine (k p ps ρ h j).bind' fun o h1 z => ?_
    cases o with
    | nx ρ' => exact for_ind z q k
    | ct ρ' => exact for_ind z q k
    | bk ρ' => exact Ok.pure z
    | rt p => exact Ok.pure z
    | rtF p => exact Ok.pure z
/-- a while by a measure -/
theorem wh_ind {c : TM} {gb : SM} {J : Nat → Ev → HS → Prop} {Q : Out → HS → Prop} : ∀ {n m : Nat} {ρ : Ev} {h : HS}, J m ρ h → m < n →
    (∀ m ρ h, J m ρ h → Ok (c ρ) (fun b h1 => if b = true then Ok (gb ρ) (fun o h' => match o with
      | .nx ρ' => ∃ m', m' < m ∧ J m' ρ' h'
      | .ct ρ' => ∃ m', m' < m ∧ J m' ρ' h'
      | .bk ρ' => Q (.nx ρ') h'
      | o => Q o h') h1 else Q (.nx ρ) h1) h) → Ok (whF c gb n ρ) Q h
  | 0, m, ρ, h, j, hm, k => absurd hm (Nat.not_lt_zero _)
  | n + 1, m, ρ, h, j, hm, k => by
    rw [whF]
    refine (k m ρ h j).bind' fun b h1 z => ?_
    cases b with
    | false => exact Ok.pure (by simpa using z)
    | true =>
      rw [if_pos rfl] at z ⊢
      refine z.bind' fun o h2 z => ?_
      cases o with
      | nx ρ' => obtain ⟨m', hm', j'⟩ := z; exact wh_ind j' (by omega) k
      | ct ρ' => obtain ⟨m', hm', j'⟩ := z; exact wh_ind j' (by omega) k
      | bk ρ' => exact Ok.pure z
      | rt p => exact Ok.pure z
      | rtF p => exact Ok.pure z
/-- what ends well without drawing is an equation -/
theorem eq_of_ok {α : Type} {x : M α} {a : α} (h : ∀ hs, Ok x (fun b h' => b = a ∧ h' = hs) hs) : x = pure a := by
  funext hs
  obtain ⟨b, h', e, rfl, rfl⟩ := h hs
  exact e
theorem ok_of_eq {α : Type} {x : M α} {a : α} {Q : α → HS → Prop} {h : HS} (e : x = pure a) (q : Q a h) : Ok x Q h := ⟨a, h, by rw [e]; rfl, q⟩
theorem fnM_eq {nl : Nat} {b : SM} {ps : List PV} {p : PV} (h : b (ev0 nl ps) = pure (.rt p)) : fnM nl b ps = pure p := by
  unfold fnM
  rw [h]
  rfl
end SL

end
section
namespace SL
open PySem PySem.Spec PyProof.Rows L2
/-! ### the mirrors' words unfolded by simp -/
section
variable {α β : Type} {Q : α → HS → Prop} {QB : β → HS → Prop} {h x : HS}
@[simp] theorem ok_pure {a : α} : Ok (pure a : M α) Q h ↔ Q a h := ⟨fun ⟨_, _, e, q⟩ => by cases M.pure_ok e; exact q, Ok.pure⟩
@[simp] theorem ok_get {f : HS → M β} : Ok ((get : M HS) >>= f) QB h ↔ Ok (f h) QB h := ⟨fun ⟨a, h1, e, q⟩ => ⟨a, h1, e, q⟩, fun ⟨a, h1, e, q⟩ => ⟨a, h1, e, q⟩⟩
@[simp] theorem ok_set {f : PUnit → M β} : Ok ((set x : M PUnit) >>= f) QB h ↔ Ok (f PUnit.unit) QB x := ⟨fun ⟨a, h1, e, q⟩ => ⟨a, h1, e, q⟩, fun ⟨a, h1, e, q⟩ => ⟨a, h1, e, q⟩⟩
@[simp] theorem ok_set' {Q : PUnit → HS → Prop} : Ok (set x : M PUnit) Q h ↔ Q PUnit.unit x := ⟨fun ⟨a, h1, e, q⟩ => by cases M.set_ok e; exact q, Ok.set⟩
@[simp] theorem ok_get' {Q : HS → HS → Prop} : Ok (get : M HS) Q h ↔ Q h h := ⟨fun ⟨a, h1, e, q⟩ => by cases M.get_ok e; exact q, Ok.get⟩
@[simp] theorem ok_map {f : α → β} {y : M α} : Ok (f <$> y) QB h ↔ Ok y (fun a h' => QB (f a) h') h := by
  rw [map_eq_pure_bind]
  refine ⟨fun ⟨b, h1, e, q⟩ => ?_, fun k => k.bind' fun a h1 q => Ok.pure q⟩
  obtain ⟨a, h2, e1, e2⟩ := M.bind_ok e
  cases M.pure_ok e2
  exact ⟨a, _, e1, q⟩
@[simp] theorem lift_some {a : α} : (liftO (some a) : M α) = pure a := rfl
@[simp] theorem guard_pos {c : Prop} [Decidable c] {y : M α} (e : c) : guardM c y = y := if_pos e
end
@[simp] theorem SZ_is : SZ = 16777216 := rfl
section
variable {i j : Nat} {ρ : Ev} {p q : PV} {ga gb gc : EM} {t u : TM} {gs : Ev → M (List PV)} {a b : SM} {f f' : PV → PV → M PV} {l m : List PV} {n k : Int} {bb : Bool} {gt : GM} {gts : GMs} {ps : List PV}
@[simp] theorem e_var : gVar i ρ = slF ρ[i]? := rfl
@[simp] theorem e_varB : gVarB i ρ = slB ρ[i]? := rfl
@[simp] theorem e_slF : slF (some (.fz p)) = pure p := rfl
@[simp] theorem e_slB : slB (some (.fz p)) = pure p := rfl
@[simp] theorem e_slBo : slB (some (.ow p)) = pure p := rfl
@[simp] theorem e_C : gC p ρ = pure p := rfl
@[simp] theorem e_bin : gBin f ga gb ρ = (ga ρ >>= fun x => gb ρ >>= fun y => f x y) := rfl
@[simp] theorem e_B {m : List PV → M PV} : gB m gs ρ = (gs ρ >>= m) := rfl
@[simp] theorem e_nil : gNil ρ = pure [] := rfl
@[simp] theorem e_cons : gCons ga gs ρ = (ga ρ >>= fun x => gs ρ >>= fun xs => pure (x :: xs)) := rfl
@[simp] theorem e_tup : gTup gs ρ = (gs ρ >>= fun xs => guardM (xs.length ≤ SZ) (pure (.tup xs))) := rfl
@[simp] theorem e_lst : gLst gs ρ = (gs ρ >>= fun xs => guardM (xs.length ≤ SZ) (pure (.lst xs))) := rfl
@[simp] theorem e_if : gIf t ga gb ρ = (t ρ >>= fun x => if x = true then ga ρ else gb ρ) := rfl
@[simp] theorem e_and : gAnd ga gb ρ = (ga ρ >>= fun x => asBl x >>= fun k => if k = true then gb ρ else pure (.bl false)) := rfl
@[simp] theorem e_or : gOr ga gb ρ = (ga ρ >>= fun x => asBl x >>= fun k => if k = true then pure (.bl true) else gb ρ) := rfl
@[simp] theorem e_not : gNot ga ρ = (ga ρ >>= fun x => asBl x >>= fun k => pure (.bl (!k))) := rfl
@[simp] theorem e_asBl : asBl (.bl bb) = pure bb := rfl
@[simp] theorem e_asInt : asInt (.int n) = pure n := rfl
@[simp] theorem e_TB : gTB ga ρ = (ga ρ >>= asBl) := rfl
@[simp] theorem e_Tru : gTru ga ρ = (ga ρ >>= pTru) := rfl
@[simp] theorem e_andT : gAndT t u ρ = (t ρ >>= fun x => if x = true then u ρ else pure false) := rfl
@[simp] theorem e_orT : gOrT t u ρ = (t ρ >>= fun x => if x = true then pure true else u ρ) := rfl
@[simp] theorem e_notT : gNotT t ρ = (t ρ >>= fun x => pure (!x)) := rfl
@[simp] theorem e_chain : gChain f f' ga gb gc ρ = (ga ρ >>= fun x => gb ρ >>= fun y => f x y >>= fun t => asBl t >>= fun k => if k = true then (gc ρ >>= fun z => f' y z) else pure (.bl false)) := rfl
@[simp] theorem e_isi {cs : List Cl} : gIsi cs ga ρ = (ga ρ >>= isiP cs) := rfl
@[simp] theorem isi_N {cs : List Cl} : isiP cs .non = pure (.bl false) := by
  show pure (PV.bl (cs.any fun c => isA c .non)) = _
  rw [show (cs.any fun c => isA c .non) = false by rw [List.any_eq_false]; intro c _; cases c <;> simp [isA]]
@[simp] theorem isi_B {cs : List Cl} : isiP cs (.bl bb) = pure (.bl (cs.any fun c => match c with | .int => true | .bool => true | _ => false)) := by
  show pure (PV.bl (cs.any fun c => isA c (.bl bb))) = _
  congr; funext c; cases c <;> rfl
@[simp] theorem isi_I {cs : List Cl} : isiP cs (.int n) = pure (.bl (cs.any fun c => match c with | .int => true | _ => false)) := by
  show pure (PV.bl (cs.any fun c => isA c (.int n))) = _
  congr; funext c; cases c <;> rfl
@[simp] theorem isi_S {x : Str} {cs : List Cl} : isiP cs (.str x) = pure (.bl (cs.any fun c => match c with | .str => true | _ => false)) := by
  show pure (PV.bl (cs.any fun c => isA c (.str x))) = _
  congr; funext c; cases c <;> rfl
@[simp] theorem isi_T {cs : List Cl} : isiP cs (.tup l) = pure (.bl (cs.any fun c => match c with | .tuple => true | _ => false)) := by
  show pure (PV.bl (cs.any fun c => isA c (.tup l))) = _
  congr; funext c; cases c <;> rfl
@[simp] theorem isi_L {cs : List Cl} : isiP cs (.lst l) = pure (.bl (cs.any fun c => match c with | .list => true | _ => false)) := by
  show pure (PV.bl (cs.any fun c => isA c (.lst l))) = _
  congr; funext c; cases c <;> rfl
@[simp] theorem isi_D {l : List (Key × PV)} {cs : List Cl} : isiP cs (.dK l) = pure (.bl (cs.any fun c => match c with | .dict => true | _ => false)) := by
  show pure (PV.bl (cs.any fun c => isA c (.dK l))) = _
  congr; funext c; cases c <;> rfl
@[simp] theorem isi_DT {l : List (List Key × PV)} {cs : List Cl} : isiP cs (.dT l) = pure (.bl (cs.any fun c => match c with | .dict => true | _ => false)) := by
  show pure (PV.bl (cs.any fun c => isA c (.dT l))) = _
  congr; funext c; cases c <;> rfl
@[simp] theorem e_neg : gNeg ga ρ = (ga ρ >>= fun x => match x with
    | .int i => pure (.int (-i))
    | _ => stuck) := rfl
@[simp] theorem e_sl {lo hi : OM} : gSl ga lo hi ρ = (ga ρ >>= fun x => lo ρ >>= fun l => hi ρ >>= fun h => pSl x l h) := rfl
@[simp] theorem e_oNone : oNone ρ = pure none := rfl
@[simp] theorem e_oSome : oSome ga ρ = (ga ρ >>= fun x => asInt x >>= fun i => pure (some i)) := rfl
@[simp] theorem e_seq : sSeq a b ρ = (a ρ >>= fun o => match o with
  | .nx ρ' => b ρ'
  | o => pure o) := rfl
@[simp] theorem e_sNx : sNx ρ = pure (.nx ρ) := rfl
@[simp] theorem e_ret : sRet ga ρ = (ga ρ >>= fun p => pure (.rt p)) := rfl
@[simp] theorem e_retF : sRetF ga ρ = (ga ρ >>= fun p => pure (.rtF p)) := rfl
@[simp] theorem e_retN : sRetN ρ = pure (.rt .non) := rfl
@[simp] theorem e_asg : sAsg ga gt ρ = (ga ρ >>= fun p => gt p ρ >>= fun ρ' => pure (.nx ρ')) := rfl
@[simp] theorem e_own : sOwn ga i ρ = (ga ρ >>= fun p => pure (.nx (ρ.set i (.ow p)))) := rfl
@[simp] theorem e_frz : sFrz i a ρ = a (frz1 i ρ) := rfl
@[simp] theorem e_expr : sExpr ga ρ = (ga ρ >>= fun _ => pure (.nx ρ)) := rfl
@[simp] theorem e_sif : sIf t a b ρ = (t ρ >>= fun c => if c = true then a ρ else b ρ) := rfl
@[simp] theorem e_brk : sBrk ρ = pure (.bk ρ) := rfl
@[simp] theorem e_cnt : sCnt ρ = pure (.ct ρ) := rfl
@[simp] theorem e_tname : tgName i p ρ = pure (ρ.set i (.fz p)) := rfl
@[simp] theorem e_tnil : tgNil [] ρ = pure ρ := rfl
@[simp] theorem e_tcons : tgCons gt gts (p :: ps) ρ = (gt p ρ >>= fun ρ1 => gts ps ρ1) := rfl
@[simp] theorem e_ttup : tgTup i gts (.tup l) ρ = guardM (l.length = i) (gts l ρ) := rfl
@[simp] theorem e_par : sPar i j gs ρ = (gs ρ >>= fun ps => match ps with
  | [p, q] => pure (.nx ((ρ.set i (.fz p)).set j (.fz q)))
  | _ => stuck) := rfl
@[simp] theorem e_seth {go : EM} : sSetH go gb ga ρ = (ga ρ >>= fun p => go ρ >>= fun o => gb ρ >>= fun y => asInt y >>= fun k => match o with
  | .hand => (get : M HS) >>= fun h => liftO (ixN h.length k) >>= fun j => (set (h.set j p) : M PUnit) >>= fun _ => pure (.nx ρ)
  | _ => stuck) := rfl
@[simp] theorem e_lc {gi : IM} {tt : TM} {ge : EM} {vs : List Nat} : gLc gi gt tt ge vs ρ = (gi ρ >>= fun ps => lcF gt tt ge (wipeE ρ vs) ps >>= fun r => pure (.lst r)) := rfl
@[simp] theorem e_sfor {gi : IM} {gb : SM} : sFor gi gt gb ρ = (gi ρ >>= fun ps => forF gt gb ps ρ) := rfl
@[simp] theorem e_seqT : iSeq ga ρ = (ga ρ >>= fun x => match x with
  | .tup l => pure l
  | .lst l => pure l
  | _ => stuck) := rfl
@[simp] theorem e_range : iRange gs ρ = (gs ρ >>= fun xs => match xs with
  | [.int j] => guardM (-(2 ^ 62) ≤ j ∧ j ≤ SZ) (pure (rng 0 j.toNat))
  | [.int i, .int j] => guardM (-(2 ^ 62) ≤ i ∧ i < 2 ^ 62 ∧ -(2 ^ 62) ≤ j ∧ j < 2 ^ 62 ∧ (j - i).toNat ≤ SZ) (pure (rng i (j - i).toNat))
  | _ => stuck) := rfl
@[simp] theorem e_zip : iZip2 ga gb ρ = (ga ρ >>= fun x => gb ρ >>= fun y => match x, y with
  | .tup l, .tup m => pure ((l.zip m).map fun t => .tup [t.1, t.2])
  | .lst l, .lst m => pure ((l.zip m).map fun t => .tup [t.1, t.2])
  | _, _ => stuck) := rfl
@[simp] theorem e_wipe0 : wipeE ρ [] = ρ := rfl
@[simp] theorem e_wipe1 {v : Nat} {vs : List Nat} : wipeE ρ (v :: vs) = (wipeE ρ vs).set v .un := rfl
/-! values -/
@[simp] theorem v_add : pAdd (.int n) (.int k) = pure (.int (n + k)) := rfl
@[simp] theorem v_addT : pAdd (.tup l) (.tup m) = guardM (l.length + m.length ≤ SZ) (pure (.tup (l ++ m))) := rfl
@[simp] theorem v_addL : pAdd (.lst l) (.lst m) = guardM (l.length + m.length ≤ SZ) (pure (.lst (l ++ m))) := rfl
@[simp] theorem v_cat : pCat (.lst l) (.lst m) = guardM (l.length + m.length ≤ SZ) (pure (.lst (l ++ m))) := rfl
@[simp] theorem v_sub : pSub (.int n) (.int k) = pure (.int (n - k)) := rfl
theorem v_mul : pMul (.int n) (.int k) = guardM ((-(2 ^ 64) < n ∧ n < 2 ^ 64) ∨ (-(2 ^ 64) < k ∧ k < 2 ^ 64)) (pure (.int (n * k))) := rfl
theorem v_div : pDiv (.int n) (.int k) = guardM (0 < k ∧ k < 2 ^ 64) (pure (.int (n / k))) := rfl
theorem v_mod : pMod (.int n) (.int k) = guardM (0 < k) (pure (.int (n % k))) := rfl
theorem v_pow : pPow (.int n) (.int k) = guardM (0 ≤ k ∧ k ≤ 1000000 ∧ n.natAbs < 2 ^ 64) (pure (.int (n ^ k.toNat))) := rfl
@[simp] theorem v_mulL (h : -(2 ^ 64) < n ∧ n < 2 ^ 64) : pMul (.int n) (.int k) = pure (.int (n * k)) := guard_pos (.inl h)
@[simp] theorem v_mulR (h : -(2 ^ 64) < k ∧ k < 2 ^ 64) : pMul (.int n) (.int k) = pure (.int (n * k)) := guard_pos (.inr h)
@[simp] theorem v_mulM {a b : Int} (h : 0 < b ∧ b < 2 ^ 64) : pMul (.int (a % b)) (.int k) = pure (.int (a % b * k)) :=
  guard_pos (.inl ⟨by have := Int.emod_nonneg a (b := b) (by omega); omega, by have := Int.emod_lt_of_pos a h.1; omega⟩)
@[simp] theorem v_divP (h : 0 < k) (h' : k < 2 ^ 64) : pDiv (.int n) (.int k) = pure (.int (n / k)) := guard_pos ⟨h, h'⟩
@[simp] theorem v_modP (h : 0 < k) : pMod (.int n) (.int k) = pure (.int (n % k)) := guard_pos h
@[simp] theorem v_powP (h : 0 ≤ k ∧ k ≤ 1000000 ∧ n.natAbs < 2 ^ 64) : pPow (.int n) (.int k) = pure (.int (n ^ k.toNat)) := guard_pos h
@[simp] theorem v_lt : pLt (.int n) (.int k) = pure (.bl (decide (n < k))) := rfl
@[simp] theorem v_le : pLe (.int n) (.int k) = pure (.bl (decide (n ≤ k))) := rfl
@[simp] theorem v_gt : pGt (.int n) (.int k) = pure (.bl (decide (k < n))) := rfl
@[simp] theorem v_ge : pGe (.int n) (.int k) = pure (.bl (decide (k ≤ n))) := rfl
@[simp] theorem v_eq : pEq (.int n) (.int k) = pure (.bl (n == k)) := by show pure (PV.bl (false ^^ (n == k))) = _; rw [Bool.false_xor]
@[simp] theorem v_eqS {x y : Str} : pEq (.str x) (.str y) = pure (.bl (x == y)) := by show pure (PV.bl (false ^^ (x == y))) = _; rw [Bool.false_xor]
@[simp] theorem v_eqB {x y : Bool} : pEq (.bl x) (.bl y) = pure (.bl (x == y)) := by show pure (PV.bl (false ^^ (x == y))) = _; rw [Bool.false_xor]
@[simp] theorem v_ne : pNe (.int n) (.int k) = pure (.bl (!(n == k))) := by show pure (PV.bl (true ^^ (n == k))) = _; rw [Bool.true_xor]
@[simp] theorem v_neS {x y : Str} : pNe (.str x) (.str y) = pure (.bl (!(x == y))) := by show pure (PV.bl (true ^^ (x == y))) = _; rw [Bool.true_xor]
@[simp] theorem v_neB {x y : Bool} : pNe (.bl x) (.bl y) = pure (.bl (!(x == y))) := by show pure (PV.bl (true ^^ (x == y))) = _; rw [Bool.true_xor]
@[simp] theorem v_isN : pIsN false p .non = pure (.bl (isNon p)) := by show pure (PV.bl (false ^^ isNon p)) = _; rw [Bool.false_xor]
@[simp] theorem v_notN : pIsN true p .non = pure (.bl (!isNon p)) := by show pure (PV.bl (true ^^ isNon p)) = _; rw [Bool.true_xor]
@[simp] theorem v_ixT : pIx (.tup l) (.int n) = liftO (atI l n) := rfl
@[simp] theorem v_ixL : pIx (.lst l) (.int n) = liftO (atI l n) := rfl
@[simp] theorem v_ixH : pIx .hand (.int n) = ((get : M HS) >>= fun h => liftO (atI h n)) := rfl
@[simp] theorem v_lenT : pLen [.tup l] = pure (.int l.length) := rfl
@[simp] theorem v_lenL : pLen [.lst l] = pure (.int l.length) := rfl
@[simp] theorem v_abs : pAbs [.int n] = pure (.int (if n < 0 then -n else n)) := rfl
@[simp] theorem v_int : pInt [.int n] = pure (.int n) := rfl
@[simp] theorem v_tupT : pTuple [.tup l] = pure (.tup l) := rfl
@[simp] theorem v_tupL : pTuple [.lst l] = pure (.tup l) := rfl
@[simp] theorem v_listT : pList [.tup l] = pure (.lst l) := rfl
@[simp] theorem v_listL : pList [.lst l] = pure (.lst l) := rfl
@[simp] theorem v_truN : pTru .non = pure false := rfl
@[simp] theorem v_truB : pTru (.bl bb) = pure bb := rfl
@[simp] theorem v_truI : pTru (.int n) = pure (n != 0) := rfl
@[simp] theorem v_truT : pTru (.tup l) = pure (!l.isEmpty) := rfl
@[simp] theorem v_truL : pTru (.lst l) = pure (!l.isEmpty) := rfl
@[simp] theorem v_max2 : pMax2 [.int n, .int k] = pure (.int (if k > n then k else n)) := rfl
@[simp] theorem v_min2 : pMin2 [.int n, .int k] = pure (.int (if k < n then k else n)) := rfl
@[simp] theorem v_slT {lo hi : Option Int} : pSl (.tup l) lo hi = pure (.tup (cut l lo hi)) := rfl
@[simp] theorem v_slL {lo hi : Option Int} : pSl (.lst l) lo hi = pure (.lst (cut l lo hi)) := rfl
theorem bls_map {α : Type} {f : α → Bool} : ∀ l : List α, bls? (l.map fun x => PV.bl (f x)) = some (l.map f)
  | [] => rfl
  | x :: l => by
    show (bls? (l.map fun x => PV.bl (f x))).map (f x :: ·) = _
    rw [bls_map l]; rfl
theorem ints_map {α : Type} {f : α → Int} : ∀ l : List α, ints? (l.map fun x => PV.int (f x)) = some (l.map f)
  | [] => rfl
  | x :: l => by
    show (ints? (l.map fun x => PV.int (f x))).map (f x :: ·) = _
    rw [ints_map l]; rfl
theorem v_all {α : Type} {f : α → Bool} {l : List α} : pAll [.lst (l.map fun x => PV.bl (f x))] = pure (.bl (l.all f)) := by
  show (liftO (bls? _) >>= fun bs => pure (PV.bl (bs.all id))) = _
  rw [bls_map, lift_some, pure_bind, List.all_map]; rfl
theorem v_any {α : Type} {f : α → Bool} {l : List α} : pAny [.lst (l.map fun x => PV.bl (f x))] = pure (.bl (l.any f)) := by
  show (liftO (bls? _) >>= fun bs => pure (PV.bl (bs.any id))) = _
  rw [bls_map, lift_some, pure_bind, List.any_map]; rfl
theorem v_sum {α : Type} {f : α → Int} {l : List α} : pSum [.lst (l.map fun x => PV.int (f x))] = pure (.int (l.map f).sum) := by
  show (liftO (ints? _) >>= fun bs => pure (PV.int bs.sum)) = _
  rw [ints_map, lift_some, pure_bind]
end
/-! walking through statements -/
theorem ok_seq {a b : SM} {ρ : Ev} {Q : Out → HS → Prop} {h : HS} (P : Ev → HS → Prop) (h1 : Ok (a ρ) (fun o h' => ∃ ρ', o = .nx ρ' ∧ P ρ' h') h) (h2 : ∀ ρ' h', P ρ' h' → Ok (b ρ') Q h') : Ok (sSeq a b ρ) Q h := by
  rw [e_seq]
  refine h1.bind' fun o h' ⟨ρ', e, p⟩ => ?_
  subst e
  exact h2 ρ' h' p
theorem ok_asg {g : EM} {i : Nat} {ρ : Ev} {P : Ev → HS → Prop} {h : HS} (k : Ok (g ρ) (fun p h' => P (ρ.set i (.fz p)) h') h) : Ok (sAsg g (tgName i) ρ) (fun o h' => ∃ ρ', o = .nx ρ' ∧ P ρ' h') h := by
  rw [e_asg]
  refine k.bind' fun p h' q => ?_
  rw [e_tname, pure_bind]
  exact Ok.pure ⟨_, rfl, q⟩
/-- x = e, then the rest: what e gives (R) is all that is kept of it -/
theorem ok_set_seq {g : EM} {i : Nat} {b : SM} {ρ : Ev} {Q : Out → HS → Prop} {h : HS} (R : PV → HS → Prop) (h1 : Ok (g ρ) R h) (h2 : ∀ p h', R p h' → Ok (b (ρ.set i (.fz p))) Q h') : Ok (sSeq (sAsg g (tgName i)) b ρ) Q h := by
  rw [e_seq, e_asg]
  simp only [e_tname, pure_bind, bind_assoc]
  exact h1.bind' fun p h' r => h2 p h' r
/-! indices -/
@[simp] theorem atI_0 {α : Type} {a : α} {l : List α} : atI (a :: l) 0 = some a := atI_nat (j := 0) rfl
@[simp] theorem atI_1 {α : Type} {a b : α} {l : List α} : atI (a :: b :: l) 1 = some b := atI_nat (j := 1) rfl
@[simp] theorem atI_2 {α : Type} {a b c : α} {l : List α} : atI (a :: b :: c :: l) 2 = some c := atI_nat (j := 2) rfl
@[simp] theorem atI_3 {α : Type} {a b c d : α} {l : List α} : atI (a :: b :: c :: d :: l) 3 = some d := atI_nat (j := 3) rfl
@[simp] theorem atI_4 {α : Type} {a b c d e : α} {l : List α} : atI (a :: b :: c :: d :: e :: l) 4 = some e := atI_nat (j := 4) rfl
theorem atI_lt {α : Type} {l : List α} {i : Int} (h0 : 0 ≤ i) (h1 : i < l.length) : atI l i = some (l[i.toNat]'(by omega)) := by
  obtain ⟨k, rfl⟩ : ∃ k : Nat, i = k := ⟨i.toNat, by omega⟩
  exact atI_nat (List.getElem?_eq_getElem (by omega))
@[simp] theorem ix_lit0 {n : Nat} : ixN (n + 1) 0 = some 0 := by unfold ixN; rw [if_pos (by omega), if_pos (by omega)]; rfl
@[simp] theorem ix_lit1 {n : Nat} : ixN (n + 1 + 1) 1 = some 1 := by unfold ixN; rw [if_pos (by omega), if_pos (by omega)]; rfl
@[simp] theorem ix_lit2 {n : Nat} : ixN (n + 1 + 1 + 1) 2 = some 2 := by unfold ixN; rw [if_pos (by omega), if_pos (by omega)]; rfl
@[simp] theorem ix_lit3 {n : Nat} : ixN (n + 1 + 1 + 1 + 1) 3 = some 3 := by unfold ixN; rw [if_pos (by omega), if_pos (by omega)]; rfl
@[simp] theorem ix_lit4 {n : Nat} : ixN (n + 1 + 1 + 1 + 1 + 1) 4 = some 4 := by unfold ixN; rw [if_pos (by omega), if_pos (by omega)]; rfl
/-- what a def makes of its body's end -/
def fin : Out → M PV
  | .rt p => pure p
  | .nx _ => pure .non
  | _ => stuck
@[simp] theorem fin_rt {p : PV} : fin (.rt p) = pure p := rfl
@[simp] theorem fin_nx {ρ : Ev} : fin (.nx ρ) = pure .non := rfl
theorem fn_u {nl : Nat} {b : SM} {ps : List PV} : fnM nl b ps = (b (ev0 nl ps) >>= fin) := by
  unfold fnM
  congr
def finF : Out → M PV
  | .rtF p => pure p
  | _ => stuck
@[simp] theorem finF_rt {p : PV} : finF (.rtF p) = pure p := rfl
theorem fnF_u {nl : Nat} {b : SM} {ps : List PV} : fnF nl b ps = (b (ev0 nl ps) >>= finF) := by
  unfold fnF
  congr
/-- the law: its hand, then the rest -/
theorem law_run {nl : Nat} {b0 b : SM} {ns : List Int} {l : HS} {ρ : Ev} (h0 : b0 (ev0 nl [.scr ns]) = pure (.nx ρ)) (hρ : ρ[1]? = some (.ow (.lst l))) (hn : noOwn 1 ρ = true)
    (h1 : Ok (b (ρ.set 1 (.fz .hand))) (fun o _ => o = .rt (.bl true)) l) : ∃ hs', fnM nl (sSeq b0 (sHand 1 b)) [.scr ns] [] = .ok (.bl true, hs') := by
  have key : Ok (fnM nl (sSeq b0 (sHand 1 b)) [.scr ns]) (fun p _ => p = .bl true) [] := by
    rw [fn_u, e_seq, h0, pure_bind]
    show Ok (sHand 1 b ρ >>= fin) _ _
    unfold sHand
    rw [hρ]
    show Ok (((pure l : M (List PV)) >>= fun l => guardM (noOwn 1 ρ = true) ((set l : M PUnit) >>= fun _ => b (ρ.set 1 (.fz .hand)) >>= fun o => match o with
      | .rt (.bl b) => pure (.rt (.bl b))
      | _ => stuck)) >>= fin) _ _
    rw [pure_bind, guard_pos hn, bind_assoc, ok_set, bind_assoc]
    refine h1.bind' fun o h e => ?_
    subst e
    simp
  obtain ⟨p, hs', e, rfl⟩ := key
  exact ⟨hs', e⟩
end SL

end
section
/-! SLo: sorted of data, a list or a tuple -/
namespace SLw
open PySem PySem.W PySem.Calls PyProof.Rows
section
variable {prog : Program} {w : World} {A : Around} {E : Value → Shared → Prop} {s : Shared}
theorem collect_tup {l : Addr} {vs : List Value} {Q : List Value → Shared → Prop} (hl : s.heap.IsTuple l vs.toArray) (hsz : vs.length ≤ sizeLine)
    (h : Q vs { s with heap := (s.heap.push (seqObj "list" #[] 0)).update s.heap.objs.size (Obj.mapSeq (· ++ vs.toArray)) }) : wpAny (model prog w) A (collect (.ref l)) Q E s := by
  obtain ⟨o, ho, hc, n, hd⟩ := id hl
  have h0 : (s.heap.push (seqObj "list" #[] 0)).get? s.heap.objs.size = some (seqObj "list" #[] 0) := Heap.get?_push_size _ rfl
  have h1 : (s.heap.push (seqObj "list" #[] 0)).get? l = some o := Heap.get?_push_of_some _ ho
  unfold collect
  refine wpAny_bind (wpAny_runValue (codeAny_builtin entry_proto_collect' ?_))
  show wpAny _ _ (do again (.builtin "list.__iadd__" ⟨[← newList [], .ref l], []⟩)) _ _ s
  refine wpAny_bind (wpAny_newList (wpAny_pure ⟨Code.quiet_builtin _ (by decide +kernel), codeAny_builtin entry_list_iadd' ?_⟩))
  show wpAny _ _ (Builtin.List.listExtendWith (.ref s.heap.objs.size) (.ref l) (.ref s.heap.objs.size)) _ _ { s with heap := s.heap.push (seqObj "list" #[] 0) }
  unfold Builtin.List.listExtendWith
  refine wpAny_bind (wpAny_typeOf (T := "tuple") ⟨o, h1, hc⟩ ?_)
  have e : (Value.type "tuple" == Value.type "tuple") = true := by rfl
  rw [if_pos (by rw [e]; simp)]
  refine wpAny_bind (listItems_at h1 hd ?_)
  refine wpAny_bind (listItems_at h0 rfl ?_)
  rw [if_neg (by simp)]
  refine wpAny_bind (listUpdate_at h0 rfl ?_ (Nat.zero_le _) (by show (#[] ++ vs.toArray).size ≤ sizeLine + 1; simp only [Array.size_append, List.size_toArray, List.length_nil]; omega))
  refine wpAny_pure ?_
  show wpAny (model prog w) A (do
      let o ← load s.heap.objs.size
      match o.data with
      | .seq xs _ => pure xs.toList
      | _ => unsupported "internal:collect") Q E { s with heap := (s.heap.push (seqObj "list" #[] 0)).update s.heap.objs.size (Obj.mapSeq (· ++ vs.toArray)) }
  refine wpAny_bind (wpAny_load (get?_update_seq h0 _) ?_)
  show wpAny _ _ (pure ((#[] : Array Value) ++ vs.toArray).toList) Q E _
  rw [show ((#[] : Array Value) ++ vs.toArray).toList = vs by simp]
  exact wpAny_pure h
/-- sorted(x) where x's items are collected so -/
theorem sorted_col {x : Value} {vs : List Value} {Q : Value → Shared → Prop} (hL : vs.length ≤ sizeLine)
    (col : ∀ (Q' : List Value → Shared → Prop) (E' : Value → Shared → Prop), Q' vs { s with heap := (s.heap.push (seqObj "list" #[] 0)).update s.heap.objs.size (Obj.mapSeq (· ++ vs.toArray)) } → wpAny (model prog w) A.in1 (collect x) Q' E' s)
    (body : ∀ E' : Value → Shared → Prop, wpAny (model prog w) A.in1.in1 (Builtin.«list.sort» ⟨[.ref (s.heap.objs.size + 1)], []⟩) (fun f s' => f = .done (.ret .none) ∧ Q (.ref (s.heap.objs.size + 1)) s') E' { s with heap := copyHeap s.heap vs }) :
    wpAny (model prog w) A (call (.builtin "sorted") [x]) Q E s := by
  refine call_function_entry kind_sorted plain_sorted entry_sorted (args_sorted1 _) ?_
  unfold Builtin.«sorted»
  refine wpAny_bind (m := checkCount "sorted" 1 1 _) (wpAny_pure ?_)
  refine wpAny_bind (col _ _ ?_)
  refine wpAny_bind (wpAny_newList ?_ hL)
  have hsz : ((s.heap.push (seqObj "list" #[] 0)).update s.heap.objs.size (Obj.mapSeq (· ++ vs.toArray))).objs.size = s.heap.objs.size + 1 := by
    rw [Heap.size_update, size_push']
  show wpAny _ _ _ _ _ { s with heap := copyHeap s.heap vs }
  rw [hsz]
  refine wpAny_bind (wpAny_holding (wpAny_call_entry_kw slot_list_sort ⟨_, copyHeap_at s.heap vs, rfl⟩ entry_list_sort ?body (args_list_sort _)))
  case body =>
    show wpAny (model prog w) A.in1.in1 (Builtin.«list.sort» ⟨[.ref (s.heap.objs.size + 1)], []⟩) _ _ _
    refine wpAny_mono (body _) (fun f s' hf => ?_) fun _ _ e => e
    obtain ⟨rfl, hq⟩ := hf
    exact ⟨_, rfl, wpAny_pure ⟨_, rfl, hq⟩⟩
variable {β : Type} {R : Value → β → Prop} {enc : β → PyData} {vs : List Value} {bs : List β}
theorem sorted_colD {x : Value} {Q : Value → Shared → Prop} (col : ∀ (Q' : List Value → Shared → Prop) (E' : Value → Shared → Prop), Q' vs { s with heap := (s.heap.push (seqObj "list" #[] 0)).update s.heap.objs.size (Obj.mapSeq (· ++ vs.toArray)) } → wpAny (model prog w) A.in1 (collect x) Q' E' s)
    (e : EachIs R vs bs) (er : EachIs (fun v b => ∃ as, Reads s.heap v (enc b) as) vs bs) (hal : AllAlike (bs.map enc)) (hk : Sortable (bs.map enc)) (hL : bs.length ≤ sizeLine)
    (hu : ∀ b, b ∈ bs → A.units + 2 + (enc b).depth < cLine) (h : ∀ out, out.length = bs.length → EachIs R out (bs.mergeSort (dataLe false enc)) → Q (.ref (s.heap.objs.size + 1)) { s with heap := sortedAll s.heap vs (List.toArray out) }) :
    wpAny (model prog w) A (call (.builtin "sorted") [x]) Q E s := by
  have er' : EachIs (fun v b => ∃ as, Reads (sortingHeap (copyHeap s.heap vs) (s.heap.objs.size + 1) vs) v (enc b) as) vs bs := er.mono fun _ _ ⟨as, r⟩ => ⟨as, PyProof.Rows.Reads.keeps (fun _ _ => sorting_copy_old) r⟩
  have hz : vs.length ≤ sizeLine := by rw [e.length]; exact hL
  have S := SortsAt.data (prog := prog) (w := w) (A := A.in1.in1) (s := { s with heap := sortingHeap (copyHeap s.heap vs) (s.heap.objs.size + 1) vs }) (each_map (R := fun v d => ∃ as, Reads (sortingHeap (copyHeap s.heap vs) (s.heap.objs.size + 1) vs) v d as) enc er') hal hk (bound_map hu)
  refine sorted_col hz col fun E' => list_sort_vals (s := { s with heap := copyHeap s.heap vs }) (copyHeap_at s.heap vs) S hz ⟨rfl, ?_⟩
  exact h _ (by rw [sortVals_length false rfl]; exact e.length) (sortVals_data false e er' hal)
end
end SLw
namespace L2
open PySem PySem.Spec PyProof.Rows
abbrev VD := V × PyData
theorem each_vd {s : Shared} {X : Cx} {pins : List (Addr × Obj)} {σ : L2.St} {H : Hp} (I : Inv X pins σ H s) : ∀ {bs : List VD} {us : List Value}, Vals (bs.map (·.1)) us → (∀ b ∈ bs, Dp X.K H b.1 b.2) →
    PySem.W.EachIs (fun u (b : VD) => RelV b.1 u) us bs ∧ PySem.W.EachIs (fun u (b : VD) => ∃ as, Reads s.heap u b.2 as) us bs
  | [], _, .nil, _ => ⟨.nil, .nil⟩
  | b :: bs, _, .cons r t, d => by
    obtain ⟨h1, h2⟩ := each_vd I t fun b h => d b (List.mem_cons_of_mem _ h)
    exact ⟨.cons r h1, .cons (Dp.reads I _ _ _ (d b List.mem_cons_self) r) h2⟩
theorem vals_each : ∀ {bs : List VD} {us : List Value}, PySem.W.EachIs (fun u (b : VD) => RelV b.1 u) us bs → Vals (bs.map (·.1)) us
  | [], _, .nil => .nil
  | _ :: _, _, .cons r t => .cons r (vals_each t)
/-- sorted(xs), data: a new list -/
def rSortedD (K : PySem.W.Frag) : List V → Hp → VK → Prop := fun xs H Q => ∃ (a : Addr) (bs : List VD), xs = [V.ref a] ∧ (SqL K H a (bs.map (·.1)) ∨ SqT K H a (bs.map (·.1))) ∧ (∀ b ∈ bs, Dp K H b.1 b.2) ∧ PySem.W.AllAlike (bs.map (·.2)) ∧ PySem.W.Sortable (bs.map (·.2)) ∧ (∀ b ∈ bs, b.2.depth ≤ 32) ∧
  ∀ p, H p = none → Q (.ref p) (upd H p (.lst ((bs.mergeSort (PySem.W.dataLe false (·.2))).map (·.1))))
theorem cr_sortedD {X : Cx} (hu : X.A.units + 64 < cLine) : CallR X (.builtin "sorted") (rSortedD X.K) := by
  intro pins s σ H vs us Q I r h
  obtain ⟨a, bs, rfl, hs, hd, ha, hk, hp, q⟩ := h
  obtain ⟨u, rfl, ru⟩ := vals1 r
  obtain rfl : u = Value.ref a := ru
  obtain ⟨its, rv, hz, col⟩ : ∃ its : List Value, Vals (bs.map (·.1)) its ∧ (bs.map (·.1)).length ≤ sizeLine ∧ ∀ (Q' : List Value → Shared → Prop) (E' : Value → Shared → Prop), Q' its { s with heap := (s.heap.push (seqObj "list" #[] 0)).update s.heap.objs.size (Obj.mapSeq (· ++ its.toArray)) } → wpAny (model X.prog X.w) X.A.in1 (collect (.ref a)) Q' E' s := by
    rcases hs with hs | hs
    · obtain ⟨its, rv, hl, hz⟩ := I.list hs
      exact ⟨its, rv, hz, fun Q' E' h => PyProof.Rows.collect_list hl.isList h (by rw [← rv.length]; exact hz)⟩
    · obtain ⟨its, rv, hl, hz⟩ := I.tuple hs
      exact ⟨its, rv, hz, fun Q' E' h => SLw.collect_tup hl (by rw [← rv.length]; exact hz) h⟩
  obtain ⟨e1, e2⟩ := each_vd I rv hd
  rw [List.length_map] at hz
  refine SLw.sorted_colD (enc := fun b : VD => b.2) col e1 e2 ha hk hz (fun b hb => by have := hp b hb; omega) fun out ho h1 => ?_
  have h2 := vals_each h1
  obtain ⟨ep, he'⟩ := PyProof.Rows.sortedAll_at s.heap its out.toArray
  have hlen : ((bs.mergeSort (PySem.W.dataLe false fun b : VD => b.2)).map (·.1)).length ≤ sizeLine := by rw [List.length_map, List.length_mergeSort]; exact hz
  exact ⟨.ref _, upd H (s.heap.objs.size + 1) (.lst ((bs.mergeSort (PySem.W.dataLe false fun b : VD => b.2)).map (·.1))), I.laid (t' := s.toks) (fun _ _ => PyProof.Rows.sortedAll_old) (Nat.le_succ _) ⟨hlen, out, ep, h2, he'⟩, rfl, q _ (I.hok.fresh (Nat.le_succ _))⟩
end L2
namespace SL
open PySem PySem.Spec PyProof.Rows L2
/-! ### the mirror -/
def isTup1 : PyData → Bool
  | .tuple (_ :: _) => true
  | _ => false
def noTup : PyData → Bool
  | .tuple _ | .none => false
  | _ => true
def alikeB (ds : List PyData) : Bool := ds.all fun d => ds.all fun e => PySem.W.alike d e
def sortB (ds : List PyData) : Bool := ds.all isTup1 || ds.all noTup
theorem alikeB_ok {ds : List PyData} (h : alikeB ds = true) : PySem.W.AllAlike ds := fun d hd e he => List.all_eq_true.mp (List.all_eq_true.mp h d hd) e he
theorem sortB_ok {ds : List PyData} (h : sortB ds = true) : PySem.W.Sortable ds := by
  rcases Bool.or_eq_true_iff.mp h with h | h
  · refine .inl fun d hd => ?_
    have := List.all_eq_true.mp h d hd
    unfold isTup1 at this
    split at this
    · exact ⟨_, _, rfl⟩
    · cases this
  · refine .inr fun d hd => ?_
    have := List.all_eq_true.mp h d hd
    unfold noTup at this
    split at this
    · cases this
    · cases this
    · rename_i h1 h2
      exact ⟨h2, h1⟩
def sorts (l : List PV) (ds : List PyData) : List PV := ((l.zip ds).mergeSort (PySem.W.dataLe false (·.2))).map (·.1)
def sortP (l : List PV) : M PV := match toDs l with
  | some ds => guardM (alikeB ds = true ∧ sortB ds = true ∧ (ds.all fun d => decide (d.depth ≤ 32)) = true) (pure (.lst (sorts l ds)))
  | none => stuck
def pSorted : List PV → M PV
  | [.tup l] => sortP l
  | [.lst l] => sortP l
  | _ => stuck
theorem mergeSort_map' {α β : Type} (f : α → β) (le : β → β → Bool) (l : List α) : (l.mergeSort fun a b => le (f a) (f b)).map f = (l.map f).mergeSort le := by
  exact List.map_mergeSort (f := f) (fun a _ b _ => rfl)
theorem zip3 {α β γ : Type} : ∀ {a : List α} {b : List β} {c : List γ}, a.length = b.length → b.length = c.length → ((a.zip (b.zip c)).map fun t => (t.1, t.2.2)) = a.zip c ∧ ((a.zip (b.zip c)).map fun t => t.2) = b.zip c ∧ ((a.zip c).map (·.1)) = a
  | [], [], [], _, _ => ⟨rfl, rfl, rfl⟩
  | x :: a, y :: b, z :: c, h1, h2 => by
    obtain ⟨e1, e2, e3⟩ := zip3 (a := a) (b := b) (c := c) (by simpa using h1) (by simpa using h2)
    exact ⟨by simp only [List.zip_cons_cons, List.map_cons, e1], by simp only [List.zip_cons_cons, List.map_cons, e2], by simp only [List.zip_cons_cons, List.map_cons, e3]⟩
theorem reps_zip {K : Fg} {ah : Option Addr} {F : Addr → Prop} {H : Hp} : ∀ {vs : List V} {ps : List PV}, Reps K ah F H vs ps → ∀ t ∈ vs.zip ps, Rep K ah F H t.1 t.2
  | _, _, .nil, t, h => by simp at h
  | _, _, .cons r q, t, h => by
    rcases List.mem_cons.mp h with e | h
    · rw [e]; exact r
    · exact reps_zip q t h
theorem zip_reps {K : Fg} {ah : Option Addr} {F : Addr → Prop} {H : Hp} : ∀ {ts : List (V × PV)}, (∀ t ∈ ts, Rep K ah F H t.1 t.2) → Reps K ah F H (ts.map (·.1)) (ts.map (·.2))
  | [], _ => .nil
  | t :: ts, h => .cons (h t List.mem_cons_self) (zip_reps fun t ht => h t (List.mem_cons_of_mem _ ht))
theorem toDs_len : ∀ {l : List PV} {ds : List PyData}, toDs l = some ds → l.length = ds.length
  | [], _, h => by cases h; rfl
  | p :: r, ds, h => by
    rw [toDs] at h
    cases e1 : toD p with
    | none => rw [e1] at h; cases h
    | some d =>
      cases e2 : toDs r with
      | none => rw [e1, e2] at h; cases h
      | some ds => rw [e1, e2] at h; cases h; exact congrArg (· + 1) (toDs_len e2)
theorem dp_zip {K : Fg} {H : Hp} : ∀ {vs : List V} {ds : List PyData}, DpAll K H vs ds → ∀ t ∈ vs.zip ds, Dp K H t.1 t.2
  | _, _, .nil, t, h => by simp at h
  | _, _, .cons r q, t, h => by
    rcases List.mem_cons.mp h with e | h
    · rw [e]; exact r
    · exact dp_zip q t h
theorem sort_reps {K : Fg} {ah : Option Addr} {F : Addr → Prop} {H : Hp} {vs : List V} {ps : List PV} {ds : List PyData} (r : Reps K ah F H vs ps) (h : ps.length = ds.length) : Reps K ah F H (((vs.zip ds).mergeSort (PySem.W.dataLe false (·.2))).map (·.1)) (sorts ps ds) := by
  obtain ⟨e1, e2, _⟩ := zip3 r.length h
  unfold sorts
  obtain ⟨Z, hZ⟩ : ∃ Z, Z = vs.zip (ps.zip ds) := ⟨_, rfl⟩
  rw [← hZ] at e1 e2
  rw [← e1, ← e2]
  have m1 := mergeSort_map' (fun t : V × PV × PyData => (t.1, t.2.2)) (PySem.W.dataLe false (·.2)) Z
  have m2 := mergeSort_map' (fun t : V × PV × PyData => t.2) (PySem.W.dataLe false (·.2)) Z
  rw [← m1, ← m2, List.map_map, List.map_map]
  have hm : ∀ t ∈ (Z.mergeSort fun a b => PySem.W.dataLe false (fun b : PV × PyData => b.2) a.2 b.2), Rep K ah F H t.1 t.2.1 := fun t ht => by
    have h1 : t ∈ vs.zip (ps.zip ds) := hZ ▸ List.mem_mergeSort.mp ht
    obtain ⟨i, hi⟩ := List.getElem?_of_mem h1
    obtain ⟨h2, h3⟩ := List.getElem?_zip_eq_some.mp hi
    obtain ⟨h4, h5⟩ := List.getElem?_zip_eq_some.mp h3
    obtain ⟨v, h6, h7⟩ := r.get h4
    rw [h2] at h6
    cases h6
    exact h7
  have := zip_reps (ts := ((Z.mergeSort fun a b => PySem.W.dataLe false (fun b : PV × PyData => b.2) a.2 b.2)).map fun t => (t.1, t.2.1)) (K := K) (ah := ah) (F := F) (H := H) (by
    intro t ht
    obtain ⟨u, hu, rfl⟩ := List.mem_map.mp ht
    exact hm u hu)
  rw [List.map_map, List.map_map] at this
  exact this
section
variable {X : Cx}
theorem cf_sorted : CallF X (rSortedD X.K) pSorted := fun ah F H hs hs' xs ps z Q G c e k => by
  have fin : ∀ {a vs l}, xs = [.ref a] → (SqL X.K H a vs ∨ SqT X.K H a vs) → Reps X.K ah F H vs l → vs.length ≤ sizeLine → sortP l hs = .ok (z, hs') → rSortedD X.K xs H Q := by
    intro a vs l ex hq r hz e
    unfold sortP at e
    cases hd : toDs l with
    | none => rw [hd] at e; cases e
    | some ds =>
      rw [hd] at e
      obtain ⟨⟨g1, g2, g3⟩, e⟩ := guard_ok e
      cases M.pure_ok e
      have hl := toDs_len hd
      have hv : vs.length = ds.length := r.length.trans hl
      have e3 : (vs.zip ds).map (·.1) = vs := List.map_fst_zip (by omega)
      have e4 : (vs.zip ds).map (·.2) = ds := List.map_snd_zip (by omega)
      refine ⟨a, vs.zip ds, ex, by rw [e3]; exact hq, dp_zip (toDs_rep r hd), by rw [e4]; exact alikeB_ok g1, by rw [e4]; exact sortB_ok g2, fun b hb => ?_, fun p n => ?_⟩
      · have := List.all_eq_true.mp g3 b.2 (by rw [← e4]; exact List.mem_map_of_mem hb)
        exact of_decide_eq_true this
      · exact new_lst G n (by rw [List.length_map, List.length_mergeSort, List.length_zip]; omega) (sort_reps r hl) k
  unfold pSorted at e
  split at e
  · cases c with | cons c t => cases t; obtain ⟨a, vs, rfl, h, z, r⟩ := c.tup; exact fin rfl (.inr h) r z e
  · cases c with | cons c t => cases t; obtain ⟨a, vs, rfl, h, z, r⟩ := c.lst; exact fin rfl (.inl (.of h)) r z e
  · cases e
variable {e : Expr} {es : List Expr} {p pos : Pos} {gs : Ev → M (List PV)}
theorem sf_sorted (hu : X.A.units + 64 < cLine) (hm : X.mg "sorted" = none) (ha : SAB X (e :: es) gs) (hg : Gl X "sorted" := by rfl) (he : starEach (e :: es) X.env = (false, eval e X.env) :: starEach es X.env := by rfl) (hpl : (backTo pos (starEach es X.env)).any (·.1) = false := by rfl) : SF X (.Call (.Name "sorted" p) (e :: es) [] pos) (gB pSorted gs) :=
  sf_B cf_sorted (pe_callB (cr_sortedD hu) hg hm (by decide +kernel) ha (by decide) (by decide) he hpl)
end
/-! ### what it is -/
theorem sorts_mem {l : List PV} {ds : List PyData} (h : l.length = ds.length) {p : PV} : p ∈ sorts l ds ↔ p ∈ l := by
  unfold sorts
  have e : l = (l.zip ds).map (·.1) := (List.map_fst_zip (by omega)).symm
  constructor
  · intro hp
    obtain ⟨t, ht, rfl⟩ := List.mem_map.mp hp
    rw [e]
    exact List.mem_map_of_mem (List.mem_mergeSort.mp ht)
  · intro hp
    rw [e] at hp
    obtain ⟨t, ht, rfl⟩ := List.mem_map.mp hp
    exact List.mem_map_of_mem (List.mem_mergeSort.mpr ht)
theorem sorts_perm {l : List PV} {ds : List PyData} (h : l.length = ds.length) : (sorts l ds).Perm l := by
  unfold sorts
  have e : l = (l.zip ds).map (·.1) := (List.map_fst_zip (by omega)).symm
  conv => rhs; rw [e]
  exact (List.mergeSort_perm _ _).map _
theorem toDs_ints : ∀ (ns : List Int), toDs (ns.map PV.int) = some (ns.map .int)
  | [] => rfl
  | n :: r => by rw [List.map_cons, toDs, toDs_ints r]; rfl
theorem sorts_ints (ns : List Int) : sorts (ns.map PV.int) (ns.map PyData.int) = (ns.mergeSort fun a b => decide (a ≤ b)).map PV.int := by
  unfold sorts
  have e : (ns.map PV.int).zip (ns.map PyData.int) = ns.map fun n => (PV.int n, PyData.int n) := by
    induction ns with
    | nil => rfl
    | cons n r ih => rw [List.map_cons, List.map_cons, List.zip_cons_cons, ih, List.map_cons]
  rw [e, ← mergeSort_map' (fun n : Int => (PV.int n, PyData.int n)) (PySem.W.dataLe false (·.2)) ns, List.map_map]
  have := PySem.W.dataLe_int (β := Int) id
  have e2 : (fun a b : Int => PySem.W.dataLe false (fun x : PV × PyData => x.2) (PV.int a, PyData.int a) (PV.int b, PyData.int b)) = fun a b => decide (a ≤ b) := this
  rw [e2]
  rfl
theorem alikeB_ints (ns : List Int) : alikeB (ns.map PyData.int) = true := by
  unfold alikeB
  refine List.all_eq_true.mpr fun d hd => List.all_eq_true.mpr fun e he => ?_
  obtain ⟨a, _, rfl⟩ := List.mem_map.mp hd
  obtain ⟨b, _, rfl⟩ := List.mem_map.mp he
  rfl
theorem sortP_ints (ns : List Int) : sortP (ns.map PV.int) = pure (.lst ((ns.mergeSort fun a b => decide (a ≤ b)).map PV.int)) := by
  unfold sortP
  rw [toDs_ints]
  show guardM _ _ = _
  rw [guard_pos, sorts_ints]
  refine ⟨alikeB_ints ns, ?_, List.all_eq_true.mpr fun d hd => ?_⟩
  · unfold sortB
    rw [Bool.or_eq_true]
    refine .inr (List.all_eq_true.mpr fun d hd => ?_)
    obtain ⟨a, _, rfl⟩ := List.mem_map.mp hd
    rfl
  · obtain ⟨a, _, rfl⟩ := List.mem_map.mp hd
    rfl
end SL

end
section
/-! SLp: more reasoning about mirrors: loops that ask all, that find, that fold; comprehensions whose tests draw; ints in rows -/
namespace SL
open PySem PySem.Spec PyProof.Rows L2
def iT (A : List Int) : PV := .tup (A.map PV.int)
def iL (A : List Int) : PV := .lst (A.map PV.int)
theorem rng0 (n : Nat) : rng 0 n = (List.range n).map fun (i : Nat) => PV.int i := by
  unfold rng
  congr
  funext i
  rw [Int.zero_add]
section
variable {α : Type}
/-- for x in ..: if not t: return False -/
theorem forall_loop {f : Slot → Ev} {i : Nat} (hf : ∀ s p, (f s).set i (.fz p) = f (.fz p)) {t : TM} {c : α → Bool} {φ : α → PV} {v : PV} : ∀ {l : List α}, (∀ x ∈ l, t (f (.fz (φ x))) = pure (c x)) → ∀ s, ∃ s', forF (tgName i) (sIf t (sRet (gC v)) sNx) (l.map φ) (f s) = pure (if (l.all fun x => !c x) = true then .nx (f s') else .rt v)
  | [], _, s => ⟨s, rfl⟩
  | x :: l, h, s => by
    obtain ⟨s', ih⟩ := forall_loop (v := v) hf (l := l) (fun y hy => h y (List.mem_cons_of_mem _ hy)) (.fz (φ x))
    have hx := h x List.mem_cons_self
    refine ⟨s', ?_⟩
    rw [List.map_cons, forF_cons, e_tname, pure_bind, hf, e_sif, hx, pure_bind]
    cases hc : c x with
    | true => simp [hc]
    | false => simp [hc, ih]
theorem forall_loopN {f : Slot → Ev} {i : Nat} (hf : ∀ s p, (f s).set i (.fz p) = f (.fz p)) {t : TM} {c : α → Bool} {φ : α → PV} {v : PV} {l : List α} (h : ∀ x ∈ l, t (f (.fz (φ x))) = pure (c x)) (s : Slot) : ∃ s', forF (tgName i) (sIf (gNotT t) (sRet (gC v)) sNx) (l.map φ) (f s) = pure (if l.all c = true then .nx (f s') else .rt v) := by
  obtain ⟨s', e⟩ := forall_loop (v := v) hf (t := gNotT t) (c := fun x => !c x) (φ := φ) (l := l) (fun x hx => by
    show (t (f (.fz (φ x))) >>= fun x => pure (!x)) = _
    rw [h x hx, pure_bind]) s
  refine ⟨s', ?_⟩
  rw [e]
  congr 2
  simp only [Bool.not_not]
/-- for x in ..: if t: return g -/
theorem find_loop {f : Slot → Ev} {i : Nat} (hf : ∀ s p, (f s).set i (.fz p) = f (.fz p)) {t : TM} {g : EM} {c : α → Bool} {φ e : α → PV} : ∀ {l : List α}, (∀ x ∈ l, t (f (.fz (φ x))) = pure (c x) ∧ (c x = true → g (f (.fz (φ x))) = pure (e x))) → ∀ s, ∃ s', forF (tgName i) (sIf t (sRet g) sNx) (l.map φ) (f s) = pure (match l.find? c with | some x => .rt (e x) | none => .nx (f s'))
  | [], _, s => ⟨s, rfl⟩
  | x :: l, h, s => by
    obtain ⟨s', ih⟩ := find_loop hf (l := l) (fun y hy => h y (List.mem_cons_of_mem _ hy)) (.fz (φ x))
    obtain ⟨hx, hg⟩ := h x List.mem_cons_self
    refine ⟨s', ?_⟩
    rw [List.map_cons, forF_cons, e_tname, pure_bind, hf, e_sif, hx, pure_bind]
    cases hc : c x with
    | true => simp [hc, hg hc]
    | false => simp [hc, ih]
/-- a loop that only goes on: what it makes is a fold -/
theorem fold_loop {β : Type} {st : β → Slot → Ev} {gt : GM} {gb : SM} {g : β → α → β} {φ : α → PV} : ∀ {l : List α} {a : β}, (∀ pre x suf, l = pre ++ x :: suf → ∀ s, ∃ s', (gt (φ x) (st (pre.foldl g a) s) >>= gb) = pure (.nx (st (g (pre.foldl g a) x) s'))) →
    ∀ s, ∃ s', forF gt gb (l.map φ) (st a s) = pure (.nx (st (l.foldl g a) s'))
  | [], a, _, s => ⟨s, rfl⟩
  | x :: l, a, h, s => by
    obtain ⟨s1, e1⟩ := h [] x l rfl s
    obtain ⟨s', ih⟩ := fold_loop (l := l) (a := g a x) (fun pre y suf e s => h (x :: pre) y suf (by rw [e]; rfl) s) s1
    refine ⟨s', ?_⟩
    rw [List.foldl_nil] at e1
    rw [List.map_cons, forF, ← bind_assoc, e1, pure_bind]
    exact ih
/-- a comprehension whose test draws -/
theorem ok_lcT {gt : GM} {tt : TM} {ge : EM} {ρ : Ev} {I : HS → Prop} {φ e : α → PV} : ∀ {l : List α} {h : HS}, I h → (∀ x ∈ l, ∀ h, I h → ∃ ρ', gt (φ x) ρ = pure ρ' ∧ Ok (tt ρ') (fun _ h' => I h') h ∧ ge ρ' = pure (e x)) →
    Ok (lcF gt tt ge ρ (l.map φ)) (fun ys h' => ∃ m : List α, m.Sublist l ∧ ys = m.map e ∧ I h') h
  | [], h, hI, _ => Ok.pure ⟨[], .refl _, rfl, hI⟩
  | x :: l, h, hI, k => by
    obtain ⟨ρ', e1, ok, e2⟩ := k x List.mem_cons_self h hI
    rw [List.map_cons, lcF, e1, pure_bind]
    refine ok.bind' fun b h1 h1I => ?_
    have ih := ok_lcT h1I fun q hq => k q (List.mem_cons_of_mem _ hq)
    cases b with
    | false =>
      rw [if_neg Bool.false_ne_true]
      exact ih.mono fun ys h2 ⟨m, hm, e, hI⟩ => ⟨m, hm.cons _, e, hI⟩
    | true =>
      rw [if_pos rfl, e2, pure_bind]
      refine ih.bind' fun ys h2 ⟨m, hm, e, hI⟩ => ?_
      exact Ok.pure ⟨x :: m, hm.cons₂ _, by rw [e]; rfl, hI⟩
end
theorem any_int (A : List Int) (a : Int) : ((A.map PV.int).any fun y => eqP y (.int a)) = decide (a ∈ A) := by
  induction A with
  | nil => rfl
  | cons x l ih =>
    rw [List.map_cons, List.any_cons, ih]
    show ((x == a) || decide (a ∈ l)) = _
    by_cases h : x = a
    · subst h; simp
    · have h' : ¬ a = x := fun e => h e.symm
      simp [h, h']
theorem flat_ints (A : List Int) : (A.map PV.int).all flatP = true := by
  rw [List.all_map]
  exact List.all_eq_true.mpr fun _ _ => rfl
theorem v_inI {A : List Int} {a : Int} : pIn (.int a) (.tup (A.map PV.int)) = pure (.bl (decide (a ∈ A))) := by
  show guardM _ (pure (PV.bl (false ^^ _))) = _
  rw [guard_pos ⟨rfl, flat_ints A⟩, any_int, Bool.false_xor]
theorem v_inIL {A : List Int} {a : Int} : pIn (.int a) (.lst (A.map PV.int)) = pure (.bl (decide (a ∈ A))) := by
  show guardM _ (pure (PV.bl (false ^^ _))) = _
  rw [guard_pos ⟨rfl, flat_ints A⟩, any_int, Bool.false_xor]
theorem v_ninI {A : List Int} {a : Int} : pNotIn (.int a) (.tup (A.map PV.int)) = pure (.bl (!decide (a ∈ A))) := by
  show guardM _ (pure (PV.bl (true ^^ _))) = _
  rw [guard_pos ⟨rfl, flat_ints A⟩, any_int, Bool.true_xor]
theorem v_ninIL {A : List Int} {a : Int} : pNotIn (.int a) (.lst (A.map PV.int)) = pure (.bl (!decide (a ∈ A))) := by
  show guardM _ (pure (PV.bl (true ^^ _))) = _
  rw [guard_pos ⟨rfl, flat_ints A⟩, any_int, Bool.true_xor]
theorem cut1 {α : Type} (l : List α) : cut l (some 1) none = l.drop 1 := by
  unfold cut HT.sIx
  cases l with
  | nil => rfl
  | cons x l => simp
theorem zip_next {α : Type} {r : α → α → Prop} : ∀ {l : List α}, l.Pairwise r → ∀ t ∈ l.zip (l.drop 1), r t.1 t.2
  | [], _, t, h => by simp at h
  | [x], _, t, h => by simp at h
  | x :: y :: l, p, t, h => by
    rw [List.pairwise_cons] at p
    have h : t ∈ (x, y) :: (y :: l).zip l := h
    rcases List.mem_cons.mp h with e | h
    · rw [e]; exact p.1 y List.mem_cons_self
    · exact zip_next (l := y :: l) p.2 t h
/-- a row of numbers from 0 on that ascend, below n -/
structure LotOk (n : Nat) (A : List Int) : Prop where
  bd : ∀ a ∈ A, 0 ≤ a ∧ a < n
  asc : A.Pairwise (· < ·)
theorem range_asc (n : Nat) : ((List.range n).map fun (i : Nat) => (i : Int)).Pairwise (· < ·) := by
  rw [List.pairwise_map]
  exact List.pairwise_lt_range.imp fun h => by omega
theorem LotOk.of_sub {n : Nat} {m : List Nat} (h : m.Sublist (List.range n)) : LotOk n (m.map fun (i : Nat) => (i : Int)) :=
  ⟨fun a ha => by
    obtain ⟨x, hx, rfl⟩ := List.mem_map.mp ha
    have := List.mem_range.mp (h.mem hx)
    omega, (range_asc n).sublist (h.map _)⟩
theorem LotOk.len {n : Nat} {m : List Nat} (h : m.Sublist (List.range n)) : m.length ≤ n := by
  have := h.length_le
  simpa using this
end SL

end
section
namespace SLP
open PySem PySem.Spec PyProof.Rows L2 SL
/-! the text -/
def topS (i : Nat) : Stmt := PySem.Challenge.pw_siegeworks_k92_whole_fewest_days_more.main.body.getD i (.Pass ⟨0, 0, 0, 0⟩)
/-- is_integer -/
abbrev s_is_integer : Stmt := topS 1
abbrev n_is_integer : List Str := ["thing"]
theorem sc_is_integer : FnScope n_is_integer ["thing"] (defScope s_is_integer) := ⟨rfl, rfl, rfl, by decide +kernel, rfl, by decide +kernel, by decide +kernel⟩
/-- is_within -/
abbrev s_is_within : Stmt := topS 2
abbrev n_is_within : List Str := ["thing", "low", "high"]
theorem sc_is_within : FnScope n_is_within ["thing", "low", "high"] (defScope s_is_within) := ⟨rfl, rfl, rfl, by decide +kernel, rfl, by decide +kernel, by decide +kernel⟩
/-- is_sized -/
abbrev s_is_sized : Stmt := topS 3
abbrev n_is_sized : List Str := ["thing", "low", "high"]
theorem sc_is_sized : FnScope n_is_sized ["thing", "low", "high"] (defScope s_is_sized) := ⟨rfl, rfl, rfl, by decide +kernel, rfl, by decide +kernel, by decide +kernel⟩
/-- is_lot -/
abbrev s_is_lot : Stmt := topS 4
abbrev n_is_lot : List Str := ["thing", "many", "one", "other"]
theorem sc_is_lot : FnScope n_is_lot ["thing", "many"] (defScope s_is_lot) := ⟨rfl, rfl, rfl, by decide +kernel, rfl, by decide +kernel, by decide +kernel⟩
/-- all_lots -/
abbrev s_all_lots : Stmt := topS 5
abbrev n_all_lots : List Str := ["some", "found", "one", "size", "lot"]
theorem sc_all_lots : FnScope n_all_lots ["some"] (defScope s_all_lots) := ⟨rfl, rfl, rfl, by decide +kernel, rfl, by decide +kernel, by decide +kernel⟩
/-- is_truce_calendar -/
abbrev s_is_truce_calendar : Stmt := topS 15
abbrev n_is_truce_calendar : List Str := ["thing"]
theorem sc_is_truce_calendar : FnScope n_is_truce_calendar ["thing"] (defScope s_is_truce_calendar) := ⟨rfl, rfl, rfl, by decide +kernel, rfl, by decide +kernel, by decide +kernel⟩
/-- check_calendar -/
abbrev s_check_calendar : Stmt := topS 16
abbrev n_check_calendar : List Str := ["thing"]
theorem sc_check_calendar : FnScope n_check_calendar ["thing"] (defScope s_check_calendar) := ⟨rfl, rfl, rfl, by decide +kernel, rfl, by decide +kernel, by decide +kernel⟩
/-- raw_keeps -/
abbrev s_raw_keeps : Stmt := topS 17
abbrev n_raw_keeps : List Str := ["calendar", "day"]
theorem sc_raw_keeps : FnScope n_raw_keeps ["calendar", "day"] (defScope s_raw_keeps) := ⟨rfl, rfl, rfl, by decide +kernel, rfl, by decide +kernel, by decide +kernel⟩
/-- is_kept_each -/
abbrev s_is_kept_each : Stmt := topS 18
abbrev n_is_kept_each : List Str := ["calendar", "run", "day", "there"]
theorem sc_is_kept_each : FnScope n_is_kept_each ["calendar", "run"] (defScope s_is_kept_each) := ⟨rfl, rfl, rfl, by decide +kernel, rfl, by decide +kernel, by decide +kernel⟩
/-- kept_sevens -/
abbrev s_kept_sevens : Stmt := topS 19
abbrev n_kept_sevens : List Str := ["calendar"]
theorem sc_kept_sevens : FnScope n_kept_sevens ["calendar"] (defScope s_kept_sevens) := ⟨rfl, rfl, rfl, by decide +kernel, rfl, by decide +kernel, by decide +kernel⟩
/-- fewest_more -/
abbrev s_fewest_more : Stmt := topS 20
abbrev n_fewest_more : List Str := ["calendar", "run", "more", "period", "lot", "number"]
theorem sc_fewest_more : FnScope n_fewest_more ["calendar", "run"] (defScope s_fewest_more) := ⟨rfl, rfl, rfl, by decide +kernel, rfl, by decide +kernel, by decide +kernel⟩
/-- _law_hand -/
abbrev s__law_hand : Stmt := topS 22
abbrev n__law_hand : List Str := ["script", "cells", "cell"]
theorem sc__law_hand : FnScope n__law_hand ["script"] (defScope s__law_hand) := ⟨rfl, rfl, rfl, by decide +kernel, rfl, by decide +kernel, by decide +kernel⟩
/-- _law_draw -/
abbrev s__law_draw : Stmt := topS 23
abbrev n__law_draw : List Str := ["hand", "many", "number", "cell", "figure"]
theorem sc__law_draw : FnScope n__law_draw ["hand", "many"] (defScope s__law_draw) := ⟨rfl, rfl, rfl, by decide +kernel, rfl, by decide +kernel, by decide +kernel⟩
/-- _law_some -/
abbrev s__law_some : Stmt := topS 24
abbrev n__law_some : List Str := ["hand", "things"]
theorem sc__law_some : FnScope n__law_some ["hand", "things"] (defScope s__law_some) := ⟨rfl, rfl, rfl, by decide +kernel, rfl, by decide +kernel, by decide +kernel⟩
/-- _law_calendar -/
abbrev s__law_calendar : Stmt := topS 25
abbrev n__law_calendar : List Str := ["hand", "most", "period", "share", "day"]
theorem sc__law_calendar : FnScope n__law_calendar ["hand", "most"] (defScope s__law_calendar) := ⟨rfl, rfl, rfl, by decide +kernel, rfl, by decide +kernel, by decide +kernel⟩
/-- _law_is -/
abbrev s__law_is : Stmt := topS 26
abbrev n__law_is : List Str := ["told", "due", "key", "one", "two"]
theorem sc__law_is : FnScope n__law_is ["told", "due"] (defScope s__law_is) := ⟨rfl, rfl, rfl, by decide +kernel, rfl, by decide +kernel, by decide +kernel⟩
/-- _law_is_kept -/
abbrev s__law_is_kept : Stmt := topS 27
abbrev n__law_is_kept : List Str := ["period", "lot", "run", "begin", "step"]
theorem sc__law_is_kept : FnScope n__law_is_kept ["period", "lot", "run"] (defScope s__law_is_kept) := ⟨rfl, rfl, rfl, by decide +kernel, rfl, by decide +kernel, by decide +kernel⟩
/-- _law_lots -/
abbrev s__law_lots : Stmt := topS 28
abbrev n__law_lots : List Str := ["some", "found", "one", "size", "lot"]
theorem sc__law_lots : FnScope n__law_lots ["some"] (defScope s__law_lots) := ⟨rfl, rfl, rfl, by decide +kernel, rfl, by decide +kernel, by decide +kernel⟩
/-- law -/
abbrev s_law : Stmt := topS 29
abbrev n_law : List Str := ["script", "hand", "turn", "calendar", "run", "free", "more", "period", "lot", "day", "some"]
theorem sc_law : FnScope n_law ["script"] (defScope s_law) := ⟨rfl, rfl, rfl, by decide +kernel, rfl, by decide +kernel, by decide +kernel⟩
structure Tp (K : Fg) (mg : Str → Option Value) : Prop where
  b_abs : mg "abs" = none
  b_all : mg "all" = none
  b_any : mg "any" = none
  b_bool : mg "bool" = none
  b_dict : mg "dict" = none
  b_int : mg "int" = none
  b_isinstance : mg "isinstance" = none
  b_len : mg "len" = none
  b_list : mg "list" = none
  b_range : mg "range" = none
  b_sorted : mg "sorted" = none
  b_str : mg "str" = none
  b_tuple : mg "tuple" = none
  b_zip : mg "zip" = none
  c_MOST_PERIOD : ∃ t, mg "MOST_PERIOD" = some (.int 30 t)
  c_MOST_RUN : ∃ t, mg "MOST_RUN" = some (.int 30 t)
  c_MOST_SMALL : ∃ t, mg "MOST_SMALL" = some (.int 12 t)
  f_is_integer : Fn K mg "is_integer" s_is_integer ["thing"]
  f_is_within : Fn K mg "is_within" s_is_within ["thing", "low", "high"]
  f_is_sized : Fn K mg "is_sized" s_is_sized ["thing", "low", "high"]
  f_is_lot : Fn K mg "is_lot" s_is_lot ["thing", "many"]
  f_all_lots : Fn K mg "all_lots" s_all_lots ["some"]
  f_is_truce_calendar : Fn K mg "is_truce_calendar" s_is_truce_calendar ["thing"]
  f_check_calendar : Fn K mg "check_calendar" s_check_calendar ["thing"]
  f_raw_keeps : Fn K mg "raw_keeps" s_raw_keeps ["calendar", "day"]
  f_is_kept_each : Fn K mg "is_kept_each" s_is_kept_each ["calendar", "run"]
  f_kept_sevens : Fn K mg "kept_sevens" s_kept_sevens ["calendar"]
  f_fewest_more : Fn K mg "fewest_more" s_fewest_more ["calendar", "run"]
  f__law_hand : Fn K mg "_law_hand" s__law_hand ["script"]
  f__law_draw : Fn K mg "_law_draw" s__law_draw ["hand", "many"]
  f__law_some : Fn K mg "_law_some" s__law_some ["hand", "things"]
  f__law_calendar : Fn K mg "_law_calendar" s__law_calendar ["hand", "most"]
  f__law_is : Fn K mg "_law_is" s__law_is ["told", "due"]
  f__law_is_kept : Fn K mg "_law_is_kept" s__law_is_kept ["period", "lot", "run"]
  f__law_lots : Fn K mg "_law_lots" s__law_lots ["some"]
section
variable {P : Program} {w : World} {K : Fg} {mg : Str → Option Value} {base : Heap}
def b_is_integer : SM := (sRet (gAnd (gIsi [.int] (gVarB 0)) (gNot (gIsi [.bool] (gVarB 0)))))
def m_is_integer : List PV → M PV := fnM 1 b_is_integer
theorem u_is_integer (a0 : PV) : m_is_integer [a0] = (b_is_integer [.fz a0] >>= fin) := fn_u
theorem k_is_integer (T : Tp K mg) : Known P w K mg base "is_integer" 1 1 m_is_integer := by
  obtain ⟨f, fd, hm, Fu, b⟩ := T.f_is_integer
  exact known (k := 0) hm Fu b sc_is_integer rfl fun cdv A outer s H E hr =>
  (sss_one (by exact (ss_ret (se_and (se_isi (c := .int) (sb_var (pv 0)) (cl_int T.b_int) T.b_isinstance) (se_one (se_not (se_isi (c := .bool) (sb_var (pv 0)) (cl_bool T.b_bool) T.b_isinstance)))))))
def b_is_within : SM := (sRet (gAnd (gB m_is_integer (gCons (gVar 0) gNil)) (gChain pLe pLe (gVarB 1) (gVarB 0) (gVarB 2))))
def m_is_within : List PV → M PV := fnM 3 b_is_within
theorem u_is_within (a0 a1 a2 : PV) : m_is_within [a0, a1, a2] = (b_is_within [.fz a0, .fz a1, .fz a2] >>= fin) := fn_u
theorem k_is_within (T : Tp K mg) : Known P w K mg base "is_within" 3 2 m_is_within := by
  obtain ⟨f, fd, hm, Fu, b⟩ := T.f_is_within
  exact known (k := 1) hm Fu b sc_is_within rfl fun cdv A outer s H E hr =>
  (sss_one (by exact (ss_ret (se_and (se_call (k_is_integer T) (hr.mono (by decide)) (sa_cons (se_var (pv 0)) sa_nil) (rows_cons rows_nil)) (se_one (se_chain op_le op_le ops_le ops_le (sb_var (pv 1)) (sb_var (pv 0)) (sb_var (pv 2))))))))
def b_is_sized : SM := (sRet (gAnd (gIsi [.tuple] (gVarB 0)) (gChain pLe pLe (gVarB 1) (gB pLen (gCons (gVarB 0) gNil)) (gVarB 2))))
def m_is_sized : List PV → M PV := fnM 3 b_is_sized
theorem u_is_sized (a0 a1 a2 : PV) : m_is_sized [a0, a1, a2] = (b_is_sized [.fz a0, .fz a1, .fz a2] >>= fin) := fn_u
theorem k_is_sized (T : Tp K mg) : Known P w K mg base "is_sized" 3 1 m_is_sized := by
  obtain ⟨f, fd, hm, Fu, b⟩ := T.f_is_sized
  exact known (k := 0) hm Fu b sc_is_sized rfl fun cdv A outer s H E hr =>
  (sss_one (by exact (ss_ret (se_and (se_isi (c := .tuple) (sb_var (pv 0)) (cl_tuple T.b_tuple) T.b_isinstance) (se_one (se_chain op_le op_le ops_le ops_le (sb_var (pv 1)) (SE.sb (se_len T.b_len (sab_cons (sb_var (pv 0)) sab_nil))) (sb_var (pv 2))))))))
def b_is_lot : SM := (sSeq (sIf (gOrT (gNotT (gTru (gIsi [.tuple] (gVarB 0)))) (gNotT (gTru (gB pAll (gCons (gLc (iSeq (gVar 0)) (tgName 2) gYes (gB m_is_within (gCons (gVar 2) (gCons (gC (.int 0)) (gCons (gBin pSub (gVarB 1) (gC (.int 1))) gNil)))) [2]) gNil))))) (sRet (gC (.bl false))) sNx)
  (sRet (gB pAll (gCons (gLc (iZip2 (gVar 0) (gSl (gVarB 0) (oSome (gC (.int 1))) oNone)) (tgTup 2 (tgCons (tgName 2) (tgCons (tgName 3) tgNil))) gYes (gBin pLt (gVarB 2) (gVarB 3)) [2, 3]) gNil))))
def m_is_lot : List PV → M PV := fnM 4 b_is_lot
theorem u_is_lot (a0 a1 : PV) : m_is_lot [a0, a1] = (b_is_lot [.fz a0, .fz a1, .un, .un] >>= fin) := fn_u
theorem k_is_lot (T : Tp K mg) : Known P w K mg base "is_lot" 2 3 m_is_lot := by
  obtain ⟨f, fd, hm, Fu, b⟩ := T.f_is_lot
  exact known (k := 2) hm Fu b sc_is_lot rfl fun cdv A outer s H E hr =>
  (sss_cons (by exact (ss_if (st_w (sw_or (st_not (st_tru (SE.sb (se_isi (c := .tuple) (sb_var (pv 0)) (cl_tuple T.b_tuple) T.b_isinstance)))) (sw_or1 (st_not (st_tru (SE.sb (se_all T.b_all (sab_cons (SE.sb (SF.se (sf_lc (own := [("one", 2)]) (is := [2]) sc_is_lot.nd (blkOk_by (N := n_is_lot) (sc := (defScope s_is_lot)) (by decide +kernel)) (si_seq (se_var (pv 0))) (fun _ _ _ _ _ => (sg_name (pg_name (i := 2) sc_is_lot.nd rfl (by first | exact Or.inl rfl | exact Or.inr rfl)))) (fun _ _ _ _ _ => sts_nil) (fun _ _ _ _ _ => (se_call (k_is_within T) (hr.mono (by decide)) (sa_cons (se_var (pv 2)) (sa_cons se_int (sa_cons (se_op op_sub ops_sub (sb_var (pv 1)) (SE.sb se_int)) sa_nil))) (rows_cons (rows_cons (rows_cons rows_nil)))))))) sab_nil)))))))) (sss_one (by exact (ss_ret se_bl))) sss_nil))
  (sss_one (by exact (ss_ret (se_all T.b_all (sab_cons (SE.sb (SF.se (sf_lc (own := [("one", 2), ("other", 3)]) (is := [2, 3]) sc_is_lot.nd (blkOk_by (N := n_is_lot) (sc := (defScope s_is_lot)) (by decide +kernel)) (si_zip T.b_zip (se_var (pv 0)) (se_sl (sb_var (pv 0)) (so_some (SE.sb se_int)) so_none)) (fun _ _ _ _ _ => (sg_tup rfl (sgs_cons (sg_name (pg_name (i := 2) sc_is_lot.nd rfl (by first | exact Or.inl rfl | exact Or.inr rfl))) (sgs_cons (sg_name (pg_name (i := 3) sc_is_lot.nd rfl (by first | exact Or.inl rfl | exact Or.inr rfl))) sgs_nil)))) (fun _ _ _ _ _ => sts_nil) (fun _ _ _ _ _ => (se_cmp (opr_lt hr.units0) ops_lt (sb_var (pv 2)) (sb_var (pv 3)) (nomark _)))))) sab_nil))))))
def b_all_lots : SM := (sSeq (sAsg (gLst (gCons (gTup gNil) gNil)) (tgName 1))
  (sSeq (sFor (iSeq (gVar 0)) (tgName 2) (sAsg (gBin pAdd (gVarB 1) (gLc (iSeq (gVar 1)) (tgName 4) gYes (gBin pAdd (gVarB 4) (gTup (gCons (gVar 2) gNil))) [4])) (tgName 1)))
  (sRet (gLc (iSeq (gB pSorted (gCons (gLc (iSeq (gVar 1)) (tgName 4) gYes (gTup (gCons (gB pLen (gCons (gVarB 4) gNil)) (gCons (gVar 4) gNil))) [4]) gNil))) (tgTup 2 (tgCons (tgName 3) (tgCons (tgName 4) tgNil))) gYes (gVar 4) [3, 4]))))
def m_all_lots : List PV → M PV := fnM 5 b_all_lots
theorem u_all_lots (a0 : PV) : m_all_lots [a0] = (b_all_lots [.fz a0, .un, .un, .un, .un] >>= fin) := fn_u
theorem k_all_lots (T : Tp K mg) : Known P w K mg base "all_lots" 1 1 m_all_lots := by
  obtain ⟨f, fd, hm, Fu, b⟩ := T.f_all_lots
  exact known (k := 0) hm Fu b sc_all_lots rfl fun cdv A outer s H E hr =>
  (sss_cons (by exact (ss_asg (SF.se (sf_lst (sa_cons (se_tup sa_nil) sa_nil))) (sg_name (pg_name (i := 1) sc_all_lots.nd rfl (by first | exact Or.inl rfl | exact Or.inr rfl)))))
  (sss_cons (by exact (ss_for PassesOwn.never (si_seq (se_var (pv 0))) (sg_name (pg_name (i := 2) sc_all_lots.nd rfl (by first | exact Or.inl rfl | exact Or.inr rfl))) (sss_one (by exact (ss_asg (se_op opr_add ops_add (sb_var (pv 1)) (SE.sb (SF.se (sf_lc (own := [("lot", 4)]) (is := [4]) sc_all_lots.nd (blkOk_by (N := n_all_lots) (sc := (defScope s_all_lots)) (by decide +kernel)) (si_seq (se_var (pv 1))) (fun _ _ _ _ _ => (sg_name (pg_name (i := 4) sc_all_lots.nd rfl (by first | exact Or.inl rfl | exact Or.inr rfl)))) (fun _ _ _ _ _ => sts_nil) (fun _ _ _ _ _ => (se_op opr_add ops_add (sb_var (pv 4)) (SE.sb (se_tup (sa_cons (se_var (pv 2)) sa_nil))))))))) (sg_name (pg_name (i := 1) sc_all_lots.nd rfl (by first | exact Or.inl rfl | exact Or.inr rfl))))))))
  (sss_one (by exact (ss_ret (SF.se (sf_lc (own := [("size", 3), ("lot", 4)]) (is := [3, 4]) sc_all_lots.nd (blkOk_by (N := n_all_lots) (sc := (defScope s_all_lots)) (by decide +kernel)) (si_seq (SF.se (sf_sorted hr.units T.b_sorted (sab_cons (SE.sb (SF.se (sf_lc (own := [("lot", 4)]) (is := [4]) sc_all_lots.nd (blkOk_by (N := n_all_lots) (sc := (defScope s_all_lots)) (by decide +kernel)) (si_seq (se_var (pv 1))) (fun _ _ _ _ _ => (sg_name (pg_name (i := 4) sc_all_lots.nd rfl (by first | exact Or.inl rfl | exact Or.inr rfl)))) (fun _ _ _ _ _ => sts_nil) (fun _ _ _ _ _ => (se_tup (sa_cons (se_len T.b_len (sab_cons (sb_var (pv 4)) sab_nil)) (sa_cons (se_var (pv 4)) sa_nil))))))) sab_nil)))) (fun _ _ _ _ _ => (sg_tup rfl (sgs_cons (sg_name (pg_name (i := 3) sc_all_lots.nd rfl (by first | exact Or.inl rfl | exact Or.inr rfl))) (sgs_cons (sg_name (pg_name (i := 4) sc_all_lots.nd rfl (by first | exact Or.inl rfl | exact Or.inr rfl))) sgs_nil)))) (fun _ _ _ _ _ => sts_nil) (fun _ _ _ _ _ => (se_var (pv 4))))))))))
def b_is_truce_calendar : SM := (sRet (gAnd (gB m_is_sized (gCons (gVar 0) (gCons (gC (.int 2)) (gCons (gC (.int 2)) gNil)))) (gAnd (gB m_is_within (gCons (gBin pIx (gVarB 0) (gC (.int 0))) (gCons (gC (.int 1)) (gCons (gC (.int 30)) gNil)))) (gB m_is_lot (gCons (gBin pIx (gVarB 0) (gC (.int 1))) (gCons (gBin pIx (gVarB 0) (gC (.int 0))) gNil))))))
def m_is_truce_calendar : List PV → M PV := fnM 1 b_is_truce_calendar
theorem u_is_truce_calendar (a0 : PV) : m_is_truce_calendar [a0] = (b_is_truce_calendar [.fz a0] >>= fin) := fn_u
theorem k_is_truce_calendar (T : Tp K mg) : Known P w K mg base "is_truce_calendar" 1 4 m_is_truce_calendar := by
  obtain ⟨f, fd, hm, Fu, b⟩ := T.f_is_truce_calendar
  exact known (k := 3) hm Fu b sc_is_truce_calendar rfl fun cdv A outer s H E hr =>
  (sss_one (by exact (ss_ret (se_and (se_call (k_is_sized T) (hr.mono (by decide)) (sa_cons (se_var (pv 0)) (sa_cons se_int (sa_cons se_int sa_nil))) (rows_cons (rows_cons (rows_cons rows_nil)))) (se_and (se_call (k_is_within T) (hr.mono (by decide)) (sa_cons (se_ix (sb_var (pv 0)) (SE.sb se_int) (fun _ _ => rfl)) (sa_cons se_int (sa_cons (se_ci T.c_MOST_PERIOD) sa_nil))) (rows_cons (rows_cons (rows_cons rows_nil)))) (se_one (se_call (k_is_lot T) (hr.mono (by decide)) (sa_cons (se_ix (sb_var (pv 0)) (SE.sb se_int) (fun _ _ => rfl)) (sa_cons (se_ix (sb_var (pv 0)) (SE.sb se_int) (fun _ _ => rfl)) sa_nil)) (rows_cons (rows_cons rows_nil)))))))))
def b_check_calendar : SM := (sIf (gNotT (gTru (gB m_is_truce_calendar (gCons (gVar 0) gNil)))) sNever sNx)
def m_check_calendar : List PV → M PV := fnM 1 b_check_calendar
theorem u_check_calendar (a0 : PV) : m_check_calendar [a0] = (b_check_calendar [.fz a0] >>= fin) := fn_u
theorem k_check_calendar (T : Tp K mg) : Known P w K mg base "check_calendar" 1 5 m_check_calendar := by
  obtain ⟨f, fd, hm, Fu, b⟩ := T.f_check_calendar
  exact known (k := 4) hm Fu b sc_check_calendar rfl fun cdv A outer s H E hr =>
  (sss_one (by exact (ss_if (st_not (st_tru (SE.sb (se_call (k_is_truce_calendar T) (hr.mono (by decide)) (sa_cons (se_var (pv 0)) sa_nil) (rows_cons rows_nil))))) (sss_one (by exact ss_never)) sss_nil)))
def b_raw_keeps : SM := (sRet (gBin pIn (gBin pMod (gVarB 1) (gBin pIx (gVarB 0) (gC (.int 0)))) (gBin pIx (gVarB 0) (gC (.int 1)))))
def m_raw_keeps : List PV → M PV := fnM 2 b_raw_keeps
theorem u_raw_keeps (a0 a1 : PV) : m_raw_keeps [a0, a1] = (b_raw_keeps [.fz a0, .fz a1] >>= fin) := fn_u
theorem k_raw_keeps (T : Tp K mg) : Known P w K mg base "raw_keeps" 2 1 m_raw_keeps := by
  obtain ⟨f, fd, hm, Fu, b⟩ := T.f_raw_keeps
  exact known (k := 0) hm Fu b sc_raw_keeps rfl fun cdv A outer s H E hr =>
  (sss_one (by exact (ss_ret (se_cmp op_in_seq (ops_in false) (SE.sb (se_op op_mod ops_mod (sb_var (pv 1)) (SE.sb (se_ix (sb_var (pv 0)) (SE.sb se_int) (fun _ _ => rfl))))) (SE.sb (se_ix (sb_var (pv 0)) (SE.sb se_int) (fun _ _ => rfl))) (by rfl)))))
def b_is_kept_each : SM := (sSeq (sFor (iRange (gCons (gBin pIx (gVarB 0) (gC (.int 0))) gNil)) (tgName 2) (sIf (gNotT (gTru (gB pAny (gCons (gLc (iRange (gCons (gVar 2) (gCons (gBin pAdd (gVarB 2) (gVarB 1)) gNil))) (tgName 3) gYes (gB m_raw_keeps (gCons (gVar 0) (gCons (gVar 3) gNil))) [3]) gNil)))) (sRet (gC (.bl false))) sNx))
  (sRet (gC (.bl true))))
def m_is_kept_each : List PV → M PV := fnM 4 b_is_kept_each
theorem u_is_kept_each (a0 a1 : PV) : m_is_kept_each [a0, a1] = (b_is_kept_each [.fz a0, .fz a1, .un, .un] >>= fin) := fn_u
theorem k_is_kept_each (T : Tp K mg) : Known P w K mg base "is_kept_each" 2 2 m_is_kept_each := by
  obtain ⟨f, fd, hm, Fu, b⟩ := T.f_is_kept_each
  exact known (k := 1) hm Fu b sc_is_kept_each rfl fun cdv A outer s H E hr =>
  (sss_cons (by exact (ss_for PassesOwn.never (si_range1 T.b_range (sa_cons (se_ix (sb_var (pv 0)) (SE.sb se_int) (fun _ _ => rfl)) sa_nil) (hn := (rows_cons rows_nil))) (sg_name (pg_name (i := 2) sc_is_kept_each.nd rfl (by first | exact Or.inl rfl | exact Or.inr rfl))) (sss_one (by exact (ss_if (st_not (st_tru (SE.sb (se_any T.b_any (sab_cons (SE.sb (SF.se (sf_lc (own := [("there", 3)]) (is := [3]) sc_is_kept_each.nd (blkOk_by (N := n_is_kept_each) (sc := (defScope s_is_kept_each)) (by decide +kernel)) (si_range2 T.b_range (sa_cons (se_var (pv 2)) (sa_cons (se_op opr_add ops_add (sb_var (pv 2)) (sb_var (pv 1))) sa_nil)) (hn := (rows_cons (rows_cons rows_nil)))) (fun _ _ _ _ _ => (sg_name (pg_name (i := 3) sc_is_kept_each.nd rfl (by first | exact Or.inl rfl | exact Or.inr rfl)))) (fun _ _ _ _ _ => sts_nil) (fun _ _ _ _ _ => (se_call (k_raw_keeps T) (hr.mono (by decide)) (sa_cons (se_var (pv 0)) (sa_cons (se_var (pv 3)) sa_nil)) (rows_cons (rows_cons rows_nil))))))) sab_nil))))) (sss_one (by exact (ss_ret se_bl))) sss_nil)))))
  (sss_one (by exact (ss_ret se_bl))))
def b_kept_sevens : SM := (sSeq (sExpr (gB m_check_calendar (gCons (gVar 0) gNil)))
  (sRet (gB m_is_kept_each (gCons (gVar 0) (gCons (gC (.int 7)) gNil)))))
def m_kept_sevens : List PV → M PV := fnM 1 b_kept_sevens
theorem u_kept_sevens (a0 : PV) : m_kept_sevens [a0] = (b_kept_sevens [.fz a0] >>= fin) := fn_u
theorem k_kept_sevens (T : Tp K mg) : Known P w K mg base "kept_sevens" 1 6 m_kept_sevens := by
  obtain ⟨f, fd, hm, Fu, b⟩ := T.f_kept_sevens
  exact known (k := 5) hm Fu b sc_kept_sevens rfl fun cdv A outer s H E hr =>
  (sss_cons (by exact (ss_expr (se_call (k_check_calendar T) (hr.mono (by decide)) (sa_cons (se_var (pv 0)) sa_nil) (rows_cons rows_nil))))
  (sss_one (by exact (ss_ret (se_call (k_is_kept_each T) (hr.mono (by decide)) (sa_cons (se_var (pv 0)) (sa_cons se_int sa_nil)) (rows_cons (rows_cons rows_nil)))))))
def b_fewest_more : SM := (sSeq (sExpr (gB m_check_calendar (gCons (gVar 0) gNil)))
  (sSeq (sIf (gNotT (gTru (gB m_is_within (gCons (gVar 1) (gCons (gC (.int 1)) (gCons (gC (.int 30)) gNil)))))) sNever sNx)
  (sSeq (sAsg (gVar 0) (tgTup 2 (tgCons (tgName 3) (tgCons (tgName 4) tgNil))))
  (sSeq (sIf (gTB (gBin pGt (gVarB 3) (gC (.int 12)))) sNever sNx)
  (sSeq (sFor (iSeq (gB m_all_lots (gCons (gLc (iRange (gCons (gVar 3) gNil)) (tgName 5) (gTB (gBin pNotIn (gVarB 5) (gVarB 4))) (gVar 5) [5]) gNil))) (tgName 2) (sIf (gTru (gB m_is_kept_each (gCons (gTup (gCons (gVar 3) (gCons (gB pTuple (gCons (gB pSorted (gCons (gBin pAdd (gVarB 4) (gVarB 2)) gNil)) gNil)) gNil))) (gCons (gVar 1) gNil)))) (sRet (gTup (gCons (gB pLen (gCons (gVarB 2) gNil)) (gCons (gVar 2) gNil)))) sNx))
  (sRet (gC .non)))))))
def m_fewest_more : List PV → M PV := fnM 6 b_fewest_more
theorem u_fewest_more (a0 a1 : PV) : m_fewest_more [a0, a1] = (b_fewest_more [.fz a0, .fz a1, .un, .un, .un, .un] >>= fin) := fn_u
theorem k_fewest_more (T : Tp K mg) : Known P w K mg base "fewest_more" 2 6 m_fewest_more := by
  obtain ⟨f, fd, hm, Fu, b⟩ := T.f_fewest_more
  exact known (k := 5) hm Fu b sc_fewest_more rfl fun cdv A outer s H E hr =>
  (sss_cons (by exact (ss_expr (se_call (k_check_calendar T) (hr.mono (by decide)) (sa_cons (se_var (pv 0)) sa_nil) (rows_cons rows_nil))))
  (sss_cons (by exact (ss_if (st_not (st_tru (SE.sb (se_call (k_is_within T) (hr.mono (by decide)) (sa_cons (se_var (pv 1)) (sa_cons se_int (sa_cons (se_ci T.c_MOST_RUN) sa_nil))) (rows_cons (rows_cons (rows_cons rows_nil))))))) (sss_one (by exact ss_never)) sss_nil))
  (sss_cons (by exact (ss_asg (se_var (pv 0)) (sg_tup rfl (sgs_cons (sg_name (pg_name (i := 3) sc_fewest_more.nd rfl (by first | exact Or.inl rfl | exact Or.inr rfl))) (sgs_cons (sg_name (pg_name (i := 4) sc_fewest_more.nd rfl (by first | exact Or.inl rfl | exact Or.inr rfl))) sgs_nil)))))
  (sss_cons (by exact (ss_if (st_cmp op_gt ops_gt (sb_var (pv 3)) (SE.sb (se_ci T.c_MOST_SMALL)) (nomark _)) (sss_one (by exact ss_never)) sss_nil))
  (sss_cons (by exact (ss_for PassesOwn.never (si_seq (se_call (k_all_lots T) (hr.mono (by decide)) (sa_cons (SF.se (sf_lc (own := [("number", 5)]) (is := [5]) sc_fewest_more.nd (blkOk_by (N := n_fewest_more) (sc := (defScope s_fewest_more)) (by decide +kernel)) (si_range1 T.b_range (sa_cons (se_var (pv 3)) sa_nil) (hn := (rows_cons rows_nil))) (fun _ _ _ _ _ => (sg_name (pg_name (i := 5) sc_fewest_more.nd rfl (by first | exact Or.inl rfl | exact Or.inr rfl)))) (fun _ _ _ _ _ => (sts_one (st_cmp op_notIn_seq (ops_in true) (sb_var (pv 5)) (sb_var (pv 4)) (by rfl)))) (fun _ _ _ _ _ => (se_var (pv 5))))) sa_nil) (rows_cons rows_nil))) (sg_name (pg_name (i := 2) sc_fewest_more.nd rfl (by first | exact Or.inl rfl | exact Or.inr rfl))) (sss_one (by exact (ss_if (st_tru (SE.sb (se_call (k_is_kept_each T) (hr.mono (by decide)) (sa_cons (se_tup (sa_cons (se_var (pv 3)) (sa_cons (se_tuplec T.b_tuple (sab_cons (SE.sb (SF.se (sf_sorted hr.units T.b_sorted (sab_cons (SE.sb (se_op opr_add ops_add (sb_var (pv 4)) (sb_var (pv 2)))) sab_nil)))) sab_nil)) sa_nil))) (sa_cons (se_var (pv 1)) sa_nil)) (rows_cons (rows_cons rows_nil))))) (sss_one (by exact (ss_ret (se_tup (sa_cons (se_len T.b_len (sab_cons (sb_var (pv 2)) sab_nil)) (sa_cons (se_var (pv 2)) sa_nil)))))) sss_nil)))))
  (sss_one (by exact (ss_ret se_non))))))))
def b__law_hand : SM := (sSeq (sAsg (gLc (iSeq (gSl (gVarB 0) oNone (oSome (gC (.int 63))))) (tgName 2) gYes (gB pAbs (gCons (gB pInt (gCons (gVarB 2) gNil)) gNil)) [2]) (tgName 1))
  (sRetF (gLst (gCons (gVar 1) (gCons (gC (.int 0)) (gCons (gC (.int 0)) (gCons (gBin pAdd (gC (.int 97)) (gBin pMul (gC (.int 5)) (gB pLen (gCons (gVarB 1) gNil)))) (gCons (gC (.int 0)) gNil))))))))
def m__law_hand : List PV → M PV := fnF 3 b__law_hand
theorem u__law_hand (a0 : PV) : m__law_hand [a0] = (b__law_hand [.fz a0, .un, .un] >>= finF) := fnF_u
theorem k__law_hand (T : Tp K mg) : KnownF P w K mg base "_law_hand" 1 1 m__law_hand := by
  obtain ⟨f, fd, hm, Fu, b⟩ := T.f__law_hand
  exact knownF (k := 0) hm Fu b sc__law_hand rfl fun cdv A outer s H E hr =>
  (sss_cons (by exact (ss_asgLc (i := 1) (own := [("cell", 2)]) (is := [2]) sc__law_hand.nd (blkOk_by (N := n__law_hand) (sc := (defScope s__law_hand)) (by decide +kernel)) (si_seq (se_sl (sb_var (pv 0)) so_none (so_some (SE.sb se_int)))) (fun _ _ _ _ _ => (sg_name (pg_name (i := 2) sc__law_hand.nd rfl (by first | exact Or.inl rfl | exact Or.inr rfl)))) (fun _ _ _ _ _ => sts_nil) (fun _ _ _ _ _ => (se_abs T.b_abs (sab_cons (SE.sb (se_intc T.b_int (sab_cons (sb_var (pv 2)) sab_nil))) sab_nil))) rfl rfl (sw_true rfl rfl rfl (by decide +kernel))))
  (sss_one (by exact (ss_retF (sf_lst (sa_cons (se_var (pv 1)) (sa_cons se_int (sa_cons se_int (sa_cons (se_op opr_add ops_add (SE.sb se_int) (SE.sb (se_op op_mul ops_mul (SE.sb se_int) (SE.sb (se_len T.b_len (sab_cons (sb_var (pv 1)) sab_nil)))))) (sa_cons se_int sa_nil))))))))))
def b__law_draw : SM := (sSeq (sIf (gAndT (gTB (gBin pEq (gBin pIx (gVarB 0) (gC (.int 2))) (gC (.int 0)))) (gTB (gBin pLt (gBin pIx (gVarB 0) (gC (.int 1))) (gB pLen (gCons (gBin pIx (gVarB 0) (gC (.int 0))) gNil))))) (sSeq (sAsg (gBin pIx (gBin pIx (gVarB 0) (gC (.int 0))) (gBin pIx (gVarB 0) (gC (.int 1)))) (tgName 3))
  (sSeq (sSetH (gVar 0) (gC (.int 1)) (gBin pAdd (gBin pIx (gVarB 0) (gC (.int 1))) (gC (.int 1))))
  (sSeq (sSetH (gVar 0) (gC (.int 3)) (gBin pMod (gB pInt (gCons (gBin pAdd (gBin pAdd (gBin pMul (gBin pIx (gVarB 0) (gC (.int 3))) (gC (.int 48271))) (gVarB 3)) (gC (.int 31))) gNil)) (gC (.int 2147483647))))
  (sIf (gTB (gBin pGe (gVarB 3) (gBin pPow (gC (.int 10)) (gC (.int 18))))) (sSetH (gVar 0) (gC (.int 2)) (gVar 3)) sNx)))) sNx)
  (sSeq (sIf (gTB (gBin pGt (gBin pIx (gVarB 0) (gC (.int 2))) (gC (.int 0)))) (sSeq (sAsg (gBin pMod (gB pInt (gCons (gBin pIx (gVarB 0) (gC (.int 2))) gNil)) (gVarB 1)) (tgName 4))
  (sSeq (sSetH (gVar 0) (gC (.int 2)) (gBin pDiv (gBin pIx (gVarB 0) (gC (.int 2))) (gVarB 1)))
  (sRet (gVar 4)))) sNx)
  (sSeq (sSetH (gVar 0) (gC (.int 4)) (gBin pAdd (gBin pIx (gVarB 0) (gC (.int 4))) (gC (.int 1))))
  (sSeq (sAsg (gBin pMod (gB pInt (gCons (gBin pMul (gB pInt (gCons (gBin pAdd (gBin pIx (gVarB 0) (gC (.int 3))) (gBin pMul (gC (.int 6151)) (gBin pIx (gVarB 0) (gC (.int 4))))) gNil)) (gC (.int 40692))) gNil)) (gC (.int 2147483399))) (tgName 2))
  (sSeq (sAsg (gBin pMod (gB pInt (gCons (gBin pMul (gVarB 2) (gBin pAdd (gBin pDiv (gVarB 2) (gC (.int 1223))) (gC (.int 52027)))) gNil)) (gC (.int 2147483629))) (tgName 2))
  (sSeq (sAsg (gBin pMod (gB pInt (gCons (gBin pMul (gVarB 2) (gBin pAdd (gBin pDiv (gVarB 2) (gC (.int 2671))) (gC (.int 69621)))) gNil)) (gC (.int 2147483647))) (tgName 2))
  (sRet (gBin pMod (gB pInt (gCons (gBin pDiv (gVarB 2) (gC (.int 32))) gNil)) (gVarB 1)))))))))
def m__law_draw : List PV → M PV := fnM 5 b__law_draw
theorem u__law_draw (a0 a1 : PV) : m__law_draw [a0, a1] = (b__law_draw [.fz a0, .fz a1, .un, .un, .un] >>= fin) := fn_u
theorem k__law_draw (T : Tp K mg) : Known P w K mg base "_law_draw" 2 1 m__law_draw := by
  obtain ⟨f, fd, hm, Fu, b⟩ := T.f__law_draw
  exact known (k := 0) hm Fu b sc__law_draw rfl fun cdv A outer s H E hr =>
  (sss_cons (by exact (ss_if (st_w (sw_and (st_cmp (opr_eq hr.units) ops_eq (SE.sb (se_ix (sb_var (pv 0)) (SE.sb se_int) (fun _ _ => rfl))) (SE.sb se_int) (nomark _)) (sw_and1 (st_cmp (opr_lt hr.units0) ops_lt (SE.sb (se_ix (sb_var (pv 0)) (SE.sb se_int) (fun _ _ => rfl))) (SE.sb (se_len T.b_len (sab_cons (SE.sb (se_ix (sb_var (pv 0)) (SE.sb se_int) (fun _ _ => rfl))) sab_nil))) (nomark _))))) (sss_cons (by exact (ss_asg (se_ix (SE.sb (se_ix (sb_var (pv 0)) (SE.sb se_int) (fun _ _ => rfl))) (SE.sb (se_ix (sb_var (pv 0)) (SE.sb se_int) (fun _ _ => rfl))) (fun _ _ => rfl)) (sg_name (pg_name (i := 3) sc__law_draw.nd rfl (by first | exact Or.inl rfl | exact Or.inr rfl)))))
  (sss_cons (by exact (ss_seth (se_var (pv 0)) se_int (se_op opr_add ops_add (SE.sb (se_ix (sb_var (pv 0)) (SE.sb se_int) (fun _ _ => rfl))) (SE.sb se_int))))
  (sss_cons (by exact (ss_seth (se_var (pv 0)) se_int (se_op op_mod ops_mod (SE.sb (se_intc T.b_int (sab_cons (SE.sb (se_op opr_add ops_add (SE.sb (se_op opr_add ops_add (SE.sb (se_op op_mul ops_mul (SE.sb (se_ix (sb_var (pv 0)) (SE.sb se_int) (fun _ _ => rfl))) (SE.sb se_int))) (sb_var (pv 3)))) (SE.sb se_int))) sab_nil))) (SE.sb se_int))))
  (sss_one (by exact (ss_if (st_cmp op_ge ops_ge (sb_var (pv 3)) (SE.sb (se_op op_pow ops_pow (SE.sb se_int) (SE.sb se_int))) (nomark _)) (sss_one (by exact (ss_seth (se_var (pv 0)) se_int (se_var (pv 3))))) sss_nil)))))) sss_nil))
  (sss_cons (by exact (ss_if (st_cmp op_gt ops_gt (SE.sb (se_ix (sb_var (pv 0)) (SE.sb se_int) (fun _ _ => rfl))) (SE.sb se_int) (nomark _)) (sss_cons (by exact (ss_asg (se_op op_mod ops_mod (SE.sb (se_intc T.b_int (sab_cons (SE.sb (se_ix (sb_var (pv 0)) (SE.sb se_int) (fun _ _ => rfl))) sab_nil))) (sb_var (pv 1))) (sg_name (pg_name (i := 4) sc__law_draw.nd rfl (by first | exact Or.inl rfl | exact Or.inr rfl)))))
  (sss_cons (by exact (ss_seth (se_var (pv 0)) se_int (se_op op_fdivW ops_div (SE.sb (se_ix (sb_var (pv 0)) (SE.sb se_int) (fun _ _ => rfl))) (sb_var (pv 1)))))
  (sss_one (by exact (ss_ret (se_var (pv 4))))))) sss_nil))
  (sss_cons (by exact (ss_seth (se_var (pv 0)) se_int (se_op opr_add ops_add (SE.sb (se_ix (sb_var (pv 0)) (SE.sb se_int) (fun _ _ => rfl))) (SE.sb se_int))))
  (sss_cons (by exact (ss_asg (se_op op_mod ops_mod (SE.sb (se_intc T.b_int (sab_cons (SE.sb (se_op op_mul ops_mul (SE.sb (se_intc T.b_int (sab_cons (SE.sb (se_op opr_add ops_add (SE.sb (se_ix (sb_var (pv 0)) (SE.sb se_int) (fun _ _ => rfl))) (SE.sb (se_op op_mul ops_mul (SE.sb se_int) (SE.sb (se_ix (sb_var (pv 0)) (SE.sb se_int) (fun _ _ => rfl))))))) sab_nil))) (SE.sb se_int))) sab_nil))) (SE.sb se_int)) (sg_name (pg_name (i := 2) sc__law_draw.nd rfl (by first | exact Or.inl rfl | exact Or.inr rfl)))))
  (sss_cons (by exact (ss_asg (se_op op_mod ops_mod (SE.sb (se_intc T.b_int (sab_cons (SE.sb (se_op op_mul ops_mul (sb_var (pv 2)) (SE.sb (se_op opr_add ops_add (SE.sb (se_op op_fdivW ops_div (sb_var (pv 2)) (SE.sb se_int))) (SE.sb se_int))))) sab_nil))) (SE.sb se_int)) (sg_name (pg_name (i := 2) sc__law_draw.nd rfl (by first | exact Or.inl rfl | exact Or.inr rfl)))))
  (sss_cons (by exact (ss_asg (se_op op_mod ops_mod (SE.sb (se_intc T.b_int (sab_cons (SE.sb (se_op op_mul ops_mul (sb_var (pv 2)) (SE.sb (se_op opr_add ops_add (SE.sb (se_op op_fdivW ops_div (sb_var (pv 2)) (SE.sb se_int))) (SE.sb se_int))))) sab_nil))) (SE.sb se_int)) (sg_name (pg_name (i := 2) sc__law_draw.nd rfl (by first | exact Or.inl rfl | exact Or.inr rfl)))))
  (sss_one (by exact (ss_ret (se_op op_mod ops_mod (SE.sb (se_intc T.b_int (sab_cons (SE.sb (se_op op_fdivW ops_div (sb_var (pv 2)) (SE.sb se_int))) sab_nil))) (sb_var (pv 1))))))))))))
def b__law_some : SM := (sRet (gBin pIx (gVarB 1) (gB m__law_draw (gCons (gVar 0) (gCons (gB pLen (gCons (gVarB 1) gNil)) gNil)))))
def m__law_some : List PV → M PV := fnM 2 b__law_some
theorem u__law_some (a0 a1 : PV) : m__law_some [a0, a1] = (b__law_some [.fz a0, .fz a1] >>= fin) := fn_u
theorem k__law_some (T : Tp K mg) : Known P w K mg base "_law_some" 2 2 m__law_some := by
  obtain ⟨f, fd, hm, Fu, b⟩ := T.f__law_some
  exact known (k := 1) hm Fu b sc__law_some rfl fun cdv A outer s H E hr =>
  (sss_one (by exact (ss_ret (se_ix (sb_var (pv 1)) (SE.sb (se_call (k__law_draw T) (hr.mono (by decide)) (sa_cons (se_var (pv 0)) (sa_cons (se_len T.b_len (sab_cons (sb_var (pv 1)) sab_nil)) sa_nil)) (rows_cons (rows_cons rows_nil)))) (fun _ _ => rfl)))))
def b__law_calendar : SM := (sSeq (sAsg (gBin pAdd (gC (.int 1)) (gB m__law_draw (gCons (gVar 0) (gCons (gVar 1) gNil)))) (tgName 2))
  (sSeq (sAsg (gB m__law_some (gCons (gVar 0) (gCons (gLst (gCons (gC (.int 2)) (gCons (gC (.int 4)) (gCons (gC (.int 8)) gNil)))) gNil))) (tgName 3))
  (sRet (gTup (gCons (gVar 2) (gCons (gB pTuple (gCons (gLc (iRange (gCons (gVar 2) gNil)) (tgName 4) (gTB (gBin pEq (gB m__law_draw (gCons (gVar 0) (gCons (gVar 3) gNil))) (gC (.int 0)))) (gVar 4) [4]) gNil)) gNil))))))
def m__law_calendar : List PV → M PV := fnM 5 b__law_calendar
theorem u__law_calendar (a0 a1 : PV) : m__law_calendar [a0, a1] = (b__law_calendar [.fz a0, .fz a1, .un, .un, .un] >>= fin) := fn_u
theorem k__law_calendar (T : Tp K mg) : Known P w K mg base "_law_calendar" 2 3 m__law_calendar := by
  obtain ⟨f, fd, hm, Fu, b⟩ := T.f__law_calendar
  exact known (k := 2) hm Fu b sc__law_calendar rfl fun cdv A outer s H E hr =>
  (sss_cons (by exact (ss_asg (se_op opr_add ops_add (SE.sb se_int) (SE.sb (se_call (k__law_draw T) (hr.mono (by decide)) (sa_cons (se_var (pv 0)) (sa_cons (se_var (pv 1)) sa_nil)) (rows_cons (rows_cons rows_nil))))) (sg_name (pg_name (i := 2) sc__law_calendar.nd rfl (by first | exact Or.inl rfl | exact Or.inr rfl)))))
  (sss_cons (by exact (ss_asg (se_call (k__law_some T) (hr.mono (by decide)) (sa_cons (se_var (pv 0)) (sa_cons (SF.se (sf_lst (sa_cons se_int (sa_cons se_int (sa_cons se_int sa_nil))))) sa_nil)) (rows_cons (rows_cons rows_nil))) (sg_name (pg_name (i := 3) sc__law_calendar.nd rfl (by first | exact Or.inl rfl | exact Or.inr rfl)))))
  (sss_one (by exact (ss_ret (se_tup (sa_cons (se_var (pv 2)) (sa_cons (se_tuplec T.b_tuple (sab_cons (SE.sb (SF.se (sf_lc (own := [("day", 4)]) (is := [4]) sc__law_calendar.nd (blkOk_by (N := n__law_calendar) (sc := (defScope s__law_calendar)) (by decide +kernel)) (si_range1 T.b_range (sa_cons (se_var (pv 2)) sa_nil) (hn := (rows_cons rows_nil))) (fun _ _ _ _ _ => (sg_name (pg_name (i := 4) sc__law_calendar.nd rfl (by first | exact Or.inl rfl | exact Or.inr rfl)))) (fun _ _ _ _ _ => (sts_one (st_cmp (opr_eq hr.units) ops_eq (SE.sb (se_call (k__law_draw T) (hr.mono (by decide)) (sa_cons (se_var (pv 0)) (sa_cons (se_var (pv 3)) sa_nil)) (rows_cons (rows_cons rows_nil)))) (SE.sb se_int) (nomark _)))) (fun _ _ _ _ _ => (se_var (pv 4)))))) sab_nil)) sa_nil))))))))
def b__law_is (m : List PV → M PV) : SM := (sSeq (sIf (gTru (gIsi [.tuple, .list] (gVarB 1))) (sSeq (sIf (gOrT (gTB (gBin pNe (gIsi [.tuple] (gVarB 0)) (gIsi [.tuple] (gVarB 1)))) (gNotT (gTru (gIsi [.tuple, .list] (gVarB 0))))) (sRet (gC (.bl false))) sNx)
  (sRet (gAnd (gBin pEq (gB pLen (gCons (gVarB 0) gNil)) (gB pLen (gCons (gVarB 1) gNil))) (gB pAll (gCons (gLc (iZip2 (gVar 0) (gVar 1)) (tgTup 2 (tgCons (tgName 3) (tgCons (tgName 4) tgNil))) gYes (gB m (gCons (gVar 3) (gCons (gVar 4) gNil))) [3, 4]) gNil))))) sNx)
  (sSeq (sIf (gTru (gIsi [.dict] (gVarB 1))) (sSeq (sIf (gOrT (gNotT (gTru (gIsi [.dict] (gVarB 0)))) (gTB (gBin pNe (gB pLen (gCons (gVarB 0) gNil)) (gB pLen (gCons (gVarB 1) gNil))))) (sRet (gC (.bl false))) sNx)
  (sRet (gB pAll (gCons (gLc (iSeq (gVar 1)) (tgName 2) gYes (gAnd (gBin pIn (gVarB 2) (gVarB 0)) (gB m (gCons (gBin pIx (gVarB 0) (gVarB 2)) (gCons (gBin pIx (gVarB 1) (gVarB 2)) gNil)))) [2]) gNil)))) sNx)
  (sSeq (sIf (gOrT (gTru (gIsi [.str] (gVarB 1))) (gTB (gBin (pIsN false) (gVarB 1) (gC .non)))) (sRet (gAnd (gBin pEq (gIsi [.str] (gVarB 0)) (gIsi [.str] (gVarB 1))) (gBin pEq (gVarB 0) (gVarB 1)))) sNx)
  (sRet (gAnd (gIsi [.int] (gVarB 0)) (gAnd (gBin pEq (gIsi [.bool] (gVarB 0)) (gIsi [.bool] (gVarB 1))) (gBin pEq (gVarB 0) (gVarB 1))))))))
def m__law_is : Nat → List PV → M PV
  | 0 => fnM 5 sNever
  | d + 1 => fnM 5 (b__law_is (m__law_is d))
theorem u__law_is (d : Nat) (a0 a1 : PV) : m__law_is (d + 1) [a0, a1] = (b__law_is (m__law_is d) [.fz a0, .fz a1, .un, .un, .un] >>= fin) := fn_u
theorem k__law_is (T : Tp K mg) : ∀ d : Nat, Known P w K mg base "_law_is" 2 (d + 1) (m__law_is d)
  | 0 => by
    obtain ⟨f, fd, hm, Fu, b⟩ := T.f__law_is
    exact known (k := 0) hm Fu b sc__law_is rfl fun cdv A outer s H E hr => sss_never
  | d + 1 => by
    obtain ⟨f, fd, hm, Fu, b⟩ := T.f__law_is
    have ih := k__law_is T d
    exact known (k := d + 1) hm Fu b sc__law_is rfl fun cdv A outer s H E hr =>
    (sss_cons (by exact (ss_if (st_tru (SE.sb (se_isi2 (c1 := .tuple) (c2 := .list) (sb_var (pv 1)) (cl_tuple T.b_tuple) (cl_list T.b_list) T.b_isinstance))) (sss_cons (by exact (ss_if (st_w (sw_or (st_cmp (opr_ne hr.units) ops_ne (SE.sb (se_isi (c := .tuple) (sb_var (pv 0)) (cl_tuple T.b_tuple) T.b_isinstance)) (SE.sb (se_isi (c := .tuple) (sb_var (pv 1)) (cl_tuple T.b_tuple) T.b_isinstance)) (nomark _)) (sw_or1 (st_not (st_tru (SE.sb (se_isi2 (c1 := .tuple) (c2 := .list) (sb_var (pv 0)) (cl_tuple T.b_tuple) (cl_list T.b_list) T.b_isinstance))))))) (sss_one (by exact (ss_ret se_bl))) sss_nil))
  (sss_one (by exact (ss_ret (se_and (se_cmp (opr_eq hr.units) ops_eq (SE.sb (se_len T.b_len (sab_cons (sb_var (pv 0)) sab_nil))) (SE.sb (se_len T.b_len (sab_cons (sb_var (pv 1)) sab_nil))) (nomark _)) (se_one (se_all T.b_all (sab_cons (SE.sb (SF.se (sf_lc (own := [("one", 3), ("two", 4)]) (is := [3, 4]) sc__law_is.nd (blkOk_by (N := n__law_is) (sc := (defScope s__law_is)) (by decide +kernel)) (si_zip T.b_zip (se_var (pv 0)) (se_var (pv 1))) (fun _ _ _ _ _ => (sg_tup rfl (sgs_cons (sg_name (pg_name (i := 3) sc__law_is.nd rfl (by first | exact Or.inl rfl | exact Or.inr rfl))) (sgs_cons (sg_name (pg_name (i := 4) sc__law_is.nd rfl (by first | exact Or.inl rfl | exact Or.inr rfl))) sgs_nil)))) (fun _ _ _ _ _ => sts_nil) (fun _ _ _ _ _ => (se_call ih (hr.mono (by omega)) (sa_cons (se_var (pv 3)) (sa_cons (se_var (pv 4)) sa_nil)) (rows_cons (rows_cons rows_nil))))))) sab_nil)))))))) sss_nil))
  (sss_cons (by exact (ss_if (st_tru (SE.sb (se_isi (c := .dict) (sb_var (pv 1)) (cl_dict T.b_dict) T.b_isinstance))) (sss_cons (by exact (ss_if (st_w (sw_or (st_not (st_tru (SE.sb (se_isi (c := .dict) (sb_var (pv 0)) (cl_dict T.b_dict) T.b_isinstance)))) (sw_or1 (st_cmp (opr_ne hr.units) ops_ne (SE.sb (se_len T.b_len (sab_cons (sb_var (pv 0)) sab_nil))) (SE.sb (se_len T.b_len (sab_cons (sb_var (pv 1)) sab_nil))) (nomark _))))) (sss_one (by exact (ss_ret se_bl))) sss_nil))
  (sss_one (by exact (ss_ret (se_all T.b_all (sab_cons (SE.sb (SF.se (sf_lc (own := [("key", 2)]) (is := [2]) sc__law_is.nd (blkOk_by (N := n__law_is) (sc := (defScope s__law_is)) (by decide +kernel)) (si_seq (se_var (pv 1))) (fun _ _ _ _ _ => (sg_name (pg_name (i := 2) sc__law_is.nd rfl (by first | exact Or.inl rfl | exact Or.inr rfl)))) (fun _ _ _ _ _ => sts_nil) (fun _ _ _ _ _ => (se_and (se_cmp op_in_seq (ops_in false) (sb_var (pv 2)) (sb_var (pv 0)) (by rfl)) (se_one (se_call ih (hr.mono (by omega)) (sa_cons (se_ix (sb_var (pv 0)) (sb_var (pv 2)) (fun _ _ => rfl)) (sa_cons (se_ix (sb_var (pv 1)) (sb_var (pv 2)) (fun _ _ => rfl)) sa_nil)) (rows_cons (rows_cons rows_nil))))))))) sab_nil)))))) sss_nil))
  (sss_cons (by exact (ss_if (st_w (sw_or (st_tru (SE.sb (se_isi (c := .str) (sb_var (pv 1)) (cl_str T.b_str) T.b_isinstance))) (sw_or1 (st_cmp op_isN ops_isN (sb_var (pv 1)) (SE.sb se_non) (nomark _))))) (sss_one (by exact (ss_ret (se_and (se_cmp (opr_eq hr.units) ops_eq (SE.sb (se_isi (c := .str) (sb_var (pv 0)) (cl_str T.b_str) T.b_isinstance)) (SE.sb (se_isi (c := .str) (sb_var (pv 1)) (cl_str T.b_str) T.b_isinstance)) (nomark _)) (se_one (se_cmp (opr_eq hr.units) ops_eq (sb_var (pv 0)) (sb_var (pv 1)) (nomark _))))))) sss_nil))
  (sss_one (by exact (ss_ret (se_and (se_isi (c := .int) (sb_var (pv 0)) (cl_int T.b_int) T.b_isinstance) (se_and (se_cmp (opr_eq hr.units) ops_eq (SE.sb (se_isi (c := .bool) (sb_var (pv 0)) (cl_bool T.b_bool) T.b_isinstance)) (SE.sb (se_isi (c := .bool) (sb_var (pv 1)) (cl_bool T.b_bool) T.b_isinstance)) (nomark _)) (se_one (se_cmp (opr_eq hr.units) ops_eq (sb_var (pv 0)) (sb_var (pv 1)) (nomark _)))))))))))
def b__law_is_kept : SM := (sSeq (sFor (iRange (gCons (gVar 0) gNil)) (tgName 3) (sIf (gNotT (gTru (gB pAny (gCons (gLc (iRange (gCons (gVar 2) gNil)) (tgName 4) gYes (gBin pIn (gBin pMod (gB pInt (gCons (gBin pAdd (gVarB 3) (gVarB 4)) gNil)) (gVarB 0)) (gVarB 1)) [4]) gNil)))) (sRet (gC (.bl false))) sNx))
  (sRet (gC (.bl true))))
def m__law_is_kept : List PV → M PV := fnM 5 b__law_is_kept
theorem u__law_is_kept (a0 a1 a2 : PV) : m__law_is_kept [a0, a1, a2] = (b__law_is_kept [.fz a0, .fz a1, .fz a2, .un, .un] >>= fin) := fn_u
theorem k__law_is_kept (T : Tp K mg) : Known P w K mg base "_law_is_kept" 3 1 m__law_is_kept := by
  obtain ⟨f, fd, hm, Fu, b⟩ := T.f__law_is_kept
  exact known (k := 0) hm Fu b sc__law_is_kept rfl fun cdv A outer s H E hr =>
  (sss_cons (by exact (ss_for PassesOwn.never (si_range1 T.b_range (sa_cons (se_var (pv 0)) sa_nil) (hn := (rows_cons rows_nil))) (sg_name (pg_name (i := 3) sc__law_is_kept.nd rfl (by first | exact Or.inl rfl | exact Or.inr rfl))) (sss_one (by exact (ss_if (st_not (st_tru (SE.sb (se_any T.b_any (sab_cons (SE.sb (SF.se (sf_lc (own := [("step", 4)]) (is := [4]) sc__law_is_kept.nd (blkOk_by (N := n__law_is_kept) (sc := (defScope s__law_is_kept)) (by decide +kernel)) (si_range1 T.b_range (sa_cons (se_var (pv 2)) sa_nil) (hn := (rows_cons rows_nil))) (fun _ _ _ _ _ => (sg_name (pg_name (i := 4) sc__law_is_kept.nd rfl (by first | exact Or.inl rfl | exact Or.inr rfl)))) (fun _ _ _ _ _ => sts_nil) (fun _ _ _ _ _ => (se_cmp op_in_seq (ops_in false) (SE.sb (se_op op_mod ops_mod (SE.sb (se_intc T.b_int (sab_cons (SE.sb (se_op opr_add ops_add (sb_var (pv 3)) (sb_var (pv 4)))) sab_nil))) (sb_var (pv 0)))) (sb_var (pv 1)) (by rfl)))))) sab_nil))))) (sss_one (by exact (ss_ret se_bl))) sss_nil)))))
  (sss_one (by exact (ss_ret se_bl))))
def b__law_lots : SM := (sSeq (sAsg (gLst (gCons (gTup gNil) gNil)) (tgName 1))
  (sSeq (sFor (iSeq (gVar 0)) (tgName 2) (sAsg (gBin pAdd (gVarB 1) (gLc (iSeq (gVar 1)) (tgName 4) gYes (gBin pAdd (gVarB 4) (gTup (gCons (gVar 2) gNil))) [4])) (tgName 1)))
  (sRet (gLc (iSeq (gB pSorted (gCons (gLc (iSeq (gVar 1)) (tgName 4) gYes (gTup (gCons (gB pLen (gCons (gVarB 4) gNil)) (gCons (gVar 4) gNil))) [4]) gNil))) (tgTup 2 (tgCons (tgName 3) (tgCons (tgName 4) tgNil))) gYes (gVar 4) [3, 4]))))
def m__law_lots : List PV → M PV := fnM 5 b__law_lots
theorem u__law_lots (a0 : PV) : m__law_lots [a0] = (b__law_lots [.fz a0, .un, .un, .un, .un] >>= fin) := fn_u
theorem k__law_lots (T : Tp K mg) : Known P w K mg base "_law_lots" 1 1 m__law_lots := by
  obtain ⟨f, fd, hm, Fu, b⟩ := T.f__law_lots
  exact known (k := 0) hm Fu b sc__law_lots rfl fun cdv A outer s H E hr =>
  (sss_cons (by exact (ss_asg (SF.se (sf_lst (sa_cons (se_tup sa_nil) sa_nil))) (sg_name (pg_name (i := 1) sc__law_lots.nd rfl (by first | exact Or.inl rfl | exact Or.inr rfl)))))
  (sss_cons (by exact (ss_for PassesOwn.never (si_seq (se_var (pv 0))) (sg_name (pg_name (i := 2) sc__law_lots.nd rfl (by first | exact Or.inl rfl | exact Or.inr rfl))) (sss_one (by exact (ss_asg (se_op opr_add ops_add (sb_var (pv 1)) (SE.sb (SF.se (sf_lc (own := [("lot", 4)]) (is := [4]) sc__law_lots.nd (blkOk_by (N := n__law_lots) (sc := (defScope s__law_lots)) (by decide +kernel)) (si_seq (se_var (pv 1))) (fun _ _ _ _ _ => (sg_name (pg_name (i := 4) sc__law_lots.nd rfl (by first | exact Or.inl rfl | exact Or.inr rfl)))) (fun _ _ _ _ _ => sts_nil) (fun _ _ _ _ _ => (se_op opr_add ops_add (sb_var (pv 4)) (SE.sb (se_tup (sa_cons (se_var (pv 2)) sa_nil))))))))) (sg_name (pg_name (i := 1) sc__law_lots.nd rfl (by first | exact Or.inl rfl | exact Or.inr rfl))))))))
  (sss_one (by exact (ss_ret (SF.se (sf_lc (own := [("size", 3), ("lot", 4)]) (is := [3, 4]) sc__law_lots.nd (blkOk_by (N := n__law_lots) (sc := (defScope s__law_lots)) (by decide +kernel)) (si_seq (SF.se (sf_sorted hr.units T.b_sorted (sab_cons (SE.sb (SF.se (sf_lc (own := [("lot", 4)]) (is := [4]) sc__law_lots.nd (blkOk_by (N := n__law_lots) (sc := (defScope s__law_lots)) (by decide +kernel)) (si_seq (se_var (pv 1))) (fun _ _ _ _ _ => (sg_name (pg_name (i := 4) sc__law_lots.nd rfl (by first | exact Or.inl rfl | exact Or.inr rfl)))) (fun _ _ _ _ _ => sts_nil) (fun _ _ _ _ _ => (se_tup (sa_cons (se_len T.b_len (sab_cons (sb_var (pv 4)) sab_nil)) (sa_cons (se_var (pv 4)) sa_nil))))))) sab_nil)))) (fun _ _ _ _ _ => (sg_tup rfl (sgs_cons (sg_name (pg_name (i := 3) sc__law_lots.nd rfl (by first | exact Or.inl rfl | exact Or.inr rfl))) (sgs_cons (sg_name (pg_name (i := 4) sc__law_lots.nd rfl (by first | exact Or.inl rfl | exact Or.inr rfl))) sgs_nil)))) (fun _ _ _ _ _ => sts_nil) (fun _ _ _ _ _ => (se_var (pv 4))))))))))
def b0_law : SM := (sOwn (gB m__law_hand (gCons (gVar 0) gNil)) 1)
def b_law : SM := (sSeq (sFor (iRange (gCons (gC (.int 6)) gNil)) (tgName 2) (sSeq (sAsg (gB m__law_calendar (gCons (gVar 1) (gCons (gC (.int 30)) gNil))) (tgName 3))
  (sSeq (sIf (gNotT (gTru (gB (m__law_is 4) (gCons (gB m_kept_sevens (gCons (gVar 3) gNil)) (gCons (gB m__law_is_kept (gCons (gBin pIx (gVarB 3) (gC (.int 0))) (gCons (gBin pIx (gVarB 3) (gC (.int 1))) (gCons (gC (.int 7)) gNil)))) gNil))))) (sRet (gC (.bl false))) sNx)
  (sSeq (sAsg (gB m__law_calendar (gCons (gVar 1) (gCons (gC (.int 8)) gNil))) (tgTup 2 (tgCons (tgName 7) (tgCons (tgName 8) tgNil))))
  (sSeq (sAsg (gBin pAdd (gC (.int 1)) (gB m__law_draw (gCons (gVar 1) (gCons (gB m__law_some (gCons (gVar 1) (gCons (gLst (gCons (gC (.int 4)) (gCons (gC (.int 30)) gNil))) gNil))) gNil)))) (tgName 4))
  (sSeq (sAsg (gLc (iRange (gCons (gVar 7) gNil)) (tgName 9) (gTB (gBin pNotIn (gVarB 9) (gVarB 8))) (gVar 9) [9]) (tgName 5))
  (sSeq (sAsg (gLc (iSeq (gB m__law_lots (gCons (gVar 5) gNil))) (tgName 10) (gTru (gB m__law_is_kept (gCons (gVar 7) (gCons (gBin pAdd (gVarB 8) (gVarB 10)) (gCons (gVar 4) gNil))))) (gVar 10) [10]) (tgName 6))
  (sIf (gNotT (gTru (gB (m__law_is 4) (gCons (gB m_fewest_more (gCons (gTup (gCons (gVar 7) (gCons (gVar 8) gNil))) (gCons (gVar 4) gNil))) (gCons (gTup (gCons (gB pLen (gCons (gBin pIx (gVarB 6) (gC (.int 0))) gNil)) (gCons (gBin pIx (gVarB 6) (gC (.int 0))) gNil))) gNil))))) (sRet (gC (.bl false))) sNx))))))))
  (sRet (gC (.bl true))))
def m_law : List PV → M PV := fnM 11 (sSeq b0_law (sHand 1 b_law))
abbrev law0 : Stmt := (defBody s_law).headD (.Pass ⟨0, 0, 0, 0⟩)
abbrev lawR : List Stmt := (defBody s_law).tail
theorem w_law (T : Tp K mg) {f : Addr} (cdv : Value) (A : Around) (outer : List Env) (s : Shared) (H : Hp) (E : XK) (hr : Room 6 (A.deeper (envOfC "law" (defScope s_law) s.heap.objs.size f cdv))) : SSs (cxOf CX0 P w K mg base n_law "law" (defScope s_law) f cdv A outer s H E).nox lawR b_law :=
  (sss_cons (by exact (ss_for PassesOwn.never (si_range1 T.b_range (sa_cons se_int sa_nil) (hn := (rows_cons rows_nil))) (sg_name (pg_name (i := 2) sc_law.nd rfl (by first | exact Or.inl rfl | exact Or.inr rfl))) (sss_cons (by exact (ss_asg (se_call (k__law_calendar T) (hr.mono (by decide)) (sa_cons (se_var (pv 1)) (sa_cons se_int sa_nil)) (rows_cons (rows_cons rows_nil))) (sg_name (pg_name (i := 3) sc_law.nd rfl (by first | exact Or.inl rfl | exact Or.inr rfl)))))
  (sss_cons (by exact (ss_if (st_not (st_tru (SE.sb (se_call (k__law_is T 4) (hr.mono (by decide)) (sa_cons (se_call (k_kept_sevens T) (hr.mono (by decide)) (sa_cons (se_var (pv 3)) sa_nil) (rows_cons rows_nil)) (sa_cons (se_call (k__law_is_kept T) (hr.mono (by decide)) (sa_cons (se_ix (sb_var (pv 3)) (SE.sb se_int) (fun _ _ => rfl)) (sa_cons (se_ix (sb_var (pv 3)) (SE.sb se_int) (fun _ _ => rfl)) (sa_cons se_int sa_nil))) (rows_cons (rows_cons (rows_cons rows_nil)))) sa_nil)) (rows_cons (rows_cons rows_nil)))))) (sss_one (by exact (ss_ret se_bl))) sss_nil))
  (sss_cons (by exact (ss_asg (se_call (k__law_calendar T) (hr.mono (by decide)) (sa_cons (se_var (pv 1)) (sa_cons se_int sa_nil)) (rows_cons (rows_cons rows_nil))) (sg_tup rfl (sgs_cons (sg_name (pg_name (i := 7) sc_law.nd rfl (by first | exact Or.inl rfl | exact Or.inr rfl))) (sgs_cons (sg_name (pg_name (i := 8) sc_law.nd rfl (by first | exact Or.inl rfl | exact Or.inr rfl))) sgs_nil)))))
  (sss_cons (by exact (ss_asg (se_op opr_add ops_add (SE.sb se_int) (SE.sb (se_call (k__law_draw T) (hr.mono (by decide)) (sa_cons (se_var (pv 1)) (sa_cons (se_call (k__law_some T) (hr.mono (by decide)) (sa_cons (se_var (pv 1)) (sa_cons (SF.se (sf_lst (sa_cons se_int (sa_cons se_int sa_nil)))) sa_nil)) (rows_cons (rows_cons rows_nil))) sa_nil)) (rows_cons (rows_cons rows_nil))))) (sg_name (pg_name (i := 4) sc_law.nd rfl (by first | exact Or.inl rfl | exact Or.inr rfl)))))
  (sss_cons (by exact (ss_asgLc (i := 5) (own := [("day", 9)]) (is := [9]) sc_law.nd (blkOk_by (N := n_law) (sc := (defScope s_law)) (by decide +kernel)) (si_range1 T.b_range (sa_cons (se_var (pv 7)) sa_nil) (hn := (rows_cons rows_nil))) (fun _ _ _ _ _ => (sg_name (pg_name (i := 9) sc_law.nd rfl (by first | exact Or.inl rfl | exact Or.inr rfl)))) (fun _ _ _ _ _ => (sts_one (st_cmp op_notIn_seq (ops_in true) (sb_var (pv 9)) (sb_var (pv 8)) (by rfl)))) (fun _ _ _ _ _ => (se_var (pv 9))) rfl rfl (sw_true rfl rfl rfl (by decide +kernel))))
  (sss_cons (by exact (ss_asgLc (i := 6) (own := [("some", 10)]) (is := [10]) sc_law.nd (blkOk_by (N := n_law) (sc := (defScope s_law)) (by decide +kernel)) (si_seq (se_call (k__law_lots T) (hr.mono (by decide)) (sa_cons (se_var (pv 5)) sa_nil) (rows_cons rows_nil))) (fun _ _ _ _ _ => (sg_name (pg_name (i := 10) sc_law.nd rfl (by first | exact Or.inl rfl | exact Or.inr rfl)))) (fun _ _ _ _ _ => (sts_one (st_tru (SE.sb (se_call (k__law_is_kept T) (hr.mono (by decide)) (sa_cons (se_var (pv 7)) (sa_cons (se_op opr_add ops_add (sb_var (pv 8)) (sb_var (pv 10))) (sa_cons (se_var (pv 4)) sa_nil))) (rows_cons (rows_cons (rows_cons rows_nil)))))))) (fun _ _ _ _ _ => (se_var (pv 10))) rfl rfl (sw_true rfl rfl rfl (by decide +kernel))))
  (sss_one (by exact (ss_if (st_not (st_tru (SE.sb (se_call (k__law_is T 4) (hr.mono (by decide)) (sa_cons (se_call (k_fewest_more T) (hr.mono (by decide)) (sa_cons (se_tup (sa_cons (se_var (pv 7)) (sa_cons (se_var (pv 8)) sa_nil))) (sa_cons (se_var (pv 4)) sa_nil)) (rows_cons (rows_cons rows_nil))) (sa_cons (se_tup (sa_cons (se_len T.b_len (sab_cons (SE.sb (se_ix (sb_var (pv 6)) (SE.sb se_int) (fun _ _ => rfl))) sab_nil)) (sa_cons (se_ix (sb_var (pv 6)) (SE.sb se_int) (fun _ _ => rfl)) sa_nil))) sa_nil)) (rows_cons (rows_cons rows_nil)))))) (sss_one (by exact (ss_ret se_bl))) sss_nil)))))))))))
  (sss_one (by exact (ss_ret se_bl))))
theorem k_law (T : Tp K mg) {f : Addr} {fd : FuncData} (Fu : Fun K "law" "law" s_law f fd) : FnOk P w K mg base CX0 7 f fd ["script"] (spN K m_law) :=
  ok_law (k := 6) (g := b0_law) (s2 := b_law) (Ns := n_law) (s0 := law0) (sts := lawR) 1 Fu sc_law rfl (fun cdv A outer s H E hr => (ss_own (i := 1) (sf_call (k__law_hand T) (hr.mono (by decide)) (sa_cons (se_var (pv 0)) sa_nil) (rows_cons rows_nil)) (pg_name (i := 1) sc_law.nd rfl (by first | exact Or.inl rfl | exact Or.inr rfl)))) fun cdv A outer s H E hr => w_law T cdv A outer s H E hr
end
theorem all_mk {l : PySem.W.OpenLaw} {w : World} {K : PySem.W.Frag} {h : Heap} {mg : Str → Option Value} {fa : Addr} (X : K.In h) (G : h.Ns mainGlobals mg) (hfa : mg "law" = some (.ref fa))
  {tMOST_PERIOD : Tok}
  {tMOST_RUN : Tok}
  {tMOST_SMALL : Tok}
  {fis_integer : Addr} {ocis_integer kVis_integer dcis_integer pmis_integer cdis_integer ctis_integer : Value} {odis_integer anis_integer : Option Addr} {slis_integer : Array (Option Value)}
  {fis_within : Addr} {ocis_within kVis_within dcis_within pmis_within cdis_within ctis_within : Value} {odis_within anis_within : Option Addr} {slis_within : Array (Option Value)}
  {fis_sized : Addr} {ocis_sized kVis_sized dcis_sized pmis_sized cdis_sized ctis_sized : Value} {odis_sized anis_sized : Option Addr} {slis_sized : Array (Option Value)}
  {fis_lot : Addr} {ocis_lot kVis_lot dcis_lot pmis_lot cdis_lot ctis_lot : Value} {odis_lot anis_lot : Option Addr} {slis_lot : Array (Option Value)}
  {fall_lots : Addr} {ocall_lots kVall_lots dcall_lots pmall_lots cdall_lots ctall_lots : Value} {odall_lots anall_lots : Option Addr} {slall_lots : Array (Option Value)}
  {fis_truce_calendar : Addr} {ocis_truce_calendar kVis_truce_calendar dcis_truce_calendar pmis_truce_calendar cdis_truce_calendar ctis_truce_calendar : Value} {odis_truce_calendar anis_truce_calendar : Option Addr} {slis_truce_calendar : Array (Option Value)}
  {fcheck_calendar : Addr} {occheck_calendar kVcheck_calendar dccheck_calendar pmcheck_calendar cdcheck_calendar ctcheck_calendar : Value} {odcheck_calendar ancheck_calendar : Option Addr} {slcheck_calendar : Array (Option Value)}
  {fraw_keeps : Addr} {ocraw_keeps kVraw_keeps dcraw_keeps pmraw_keeps cdraw_keeps ctraw_keeps : Value} {odraw_keeps anraw_keeps : Option Addr} {slraw_keeps : Array (Option Value)}
  {fis_kept_each : Addr} {ocis_kept_each kVis_kept_each dcis_kept_each pmis_kept_each cdis_kept_each ctis_kept_each : Value} {odis_kept_each anis_kept_each : Option Addr} {slis_kept_each : Array (Option Value)}
  {fkept_sevens : Addr} {ockept_sevens kVkept_sevens dckept_sevens pmkept_sevens cdkept_sevens ctkept_sevens : Value} {odkept_sevens ankept_sevens : Option Addr} {slkept_sevens : Array (Option Value)}
  {ffewest_more : Addr} {ocfewest_more kVfewest_more dcfewest_more pmfewest_more cdfewest_more ctfewest_more : Value} {odfewest_more anfewest_more : Option Addr} {slfewest_more : Array (Option Value)}
  {f_law_hand : Addr} {oc_law_hand kV_law_hand dc_law_hand pm_law_hand cd_law_hand ct_law_hand : Value} {od_law_hand an_law_hand : Option Addr} {sl_law_hand : Array (Option Value)}
  {f_law_draw : Addr} {oc_law_draw kV_law_draw dc_law_draw pm_law_draw cd_law_draw ct_law_draw : Value} {od_law_draw an_law_draw : Option Addr} {sl_law_draw : Array (Option Value)}
  {f_law_some : Addr} {oc_law_some kV_law_some dc_law_some pm_law_some cd_law_some ct_law_some : Value} {od_law_some an_law_some : Option Addr} {sl_law_some : Array (Option Value)}
  {f_law_calendar : Addr} {oc_law_calendar kV_law_calendar dc_law_calendar pm_law_calendar cd_law_calendar ct_law_calendar : Value} {od_law_calendar an_law_calendar : Option Addr} {sl_law_calendar : Array (Option Value)}
  {f_law_is : Addr} {oc_law_is kV_law_is dc_law_is pm_law_is cd_law_is ct_law_is : Value} {od_law_is an_law_is : Option Addr} {sl_law_is : Array (Option Value)}
  {f_law_is_kept : Addr} {oc_law_is_kept kV_law_is_kept dc_law_is_kept pm_law_is_kept cd_law_is_kept ct_law_is_kept : Value} {od_law_is_kept an_law_is_kept : Option Addr} {sl_law_is_kept : Array (Option Value)}
  {f_law_lots : Addr} {oc_law_lots kV_law_lots dc_law_lots pm_law_lots cd_law_lots ct_law_lots : Value} {od_law_lots an_law_lots : Option Addr} {sl_law_lots : Array (Option Value)}
  {flaw : Addr} {oclaw kVlaw dclaw pmlaw cdlaw ctlaw : Value} {odlaw anlaw : Option Addr} {sllaw : Array (Option Value)}
  (babs : PySem.W.nsIn K mainGlobals "abs" = some none)
  (ball : PySem.W.nsIn K mainGlobals "all" = some none)
  (bany : PySem.W.nsIn K mainGlobals "any" = some none)
  (bbool : PySem.W.nsIn K mainGlobals "bool" = some none)
  (bdict : PySem.W.nsIn K mainGlobals "dict" = some none)
  (bint : PySem.W.nsIn K mainGlobals "int" = some none)
  (bisinstance : PySem.W.nsIn K mainGlobals "isinstance" = some none)
  (blen : PySem.W.nsIn K mainGlobals "len" = some none)
  (blist : PySem.W.nsIn K mainGlobals "list" = some none)
  (brange : PySem.W.nsIn K mainGlobals "range" = some none)
  (bsorted : PySem.W.nsIn K mainGlobals "sorted" = some none)
  (bstr : PySem.W.nsIn K mainGlobals "str" = some none)
  (btuple : PySem.W.nsIn K mainGlobals "tuple" = some none)
  (bzip : PySem.W.nsIn K mainGlobals "zip" = some none)
  (cMOST_PERIOD : PySem.W.nsIn K mainGlobals "MOST_PERIOD" = some (some (.int 30 tMOST_PERIOD)))
  (cMOST_RUN : PySem.W.nsIn K mainGlobals "MOST_RUN" = some (some (.int 30 tMOST_RUN)))
  (cMOST_SMALL : PySem.W.nsIn K mainGlobals "MOST_SMALL" = some (some (.int 12 tMOST_SMALL)))
  (ais_integer : PySem.W.nsIn K mainGlobals "is_integer" = some (some (.ref fis_integer)))
  (lis_integer : K.lookup fis_integer = some ⟨ocis_integer, odis_integer, .func (PySem.W.fnOf "is_integer" "is_integer" (defArgs s_is_integer) (defBody s_is_integer) (defScope s_is_integer) .none kVis_integer dcis_integer pmis_integer anis_integer cdis_integer ctis_integer), slis_integer⟩)
  (dis_integer : PySem.W.codeIn K cdis_integer "is_integer" = true)
  (eis_integer : PySem.W.keepIn K (.ref fis_integer) = true)
  (ais_within : PySem.W.nsIn K mainGlobals "is_within" = some (some (.ref fis_within)))
  (lis_within : K.lookup fis_within = some ⟨ocis_within, odis_within, .func (PySem.W.fnOf "is_within" "is_within" (defArgs s_is_within) (defBody s_is_within) (defScope s_is_within) .none kVis_within dcis_within pmis_within anis_within cdis_within ctis_within), slis_within⟩)
  (dis_within : PySem.W.codeIn K cdis_within "is_within" = true)
  (eis_within : PySem.W.keepIn K (.ref fis_within) = true)
  (ais_sized : PySem.W.nsIn K mainGlobals "is_sized" = some (some (.ref fis_sized)))
  (lis_sized : K.lookup fis_sized = some ⟨ocis_sized, odis_sized, .func (PySem.W.fnOf "is_sized" "is_sized" (defArgs s_is_sized) (defBody s_is_sized) (defScope s_is_sized) .none kVis_sized dcis_sized pmis_sized anis_sized cdis_sized ctis_sized), slis_sized⟩)
  (dis_sized : PySem.W.codeIn K cdis_sized "is_sized" = true)
  (eis_sized : PySem.W.keepIn K (.ref fis_sized) = true)
  (ais_lot : PySem.W.nsIn K mainGlobals "is_lot" = some (some (.ref fis_lot)))
  (lis_lot : K.lookup fis_lot = some ⟨ocis_lot, odis_lot, .func (PySem.W.fnOf "is_lot" "is_lot" (defArgs s_is_lot) (defBody s_is_lot) (defScope s_is_lot) .none kVis_lot dcis_lot pmis_lot anis_lot cdis_lot ctis_lot), slis_lot⟩)
  (dis_lot : PySem.W.codeIn K cdis_lot "is_lot" = true)
  (eis_lot : PySem.W.keepIn K (.ref fis_lot) = true)
  (aall_lots : PySem.W.nsIn K mainGlobals "all_lots" = some (some (.ref fall_lots)))
  (lall_lots : K.lookup fall_lots = some ⟨ocall_lots, odall_lots, .func (PySem.W.fnOf "all_lots" "all_lots" (defArgs s_all_lots) (defBody s_all_lots) (defScope s_all_lots) .none kVall_lots dcall_lots pmall_lots anall_lots cdall_lots ctall_lots), slall_lots⟩)
  (dall_lots : PySem.W.codeIn K cdall_lots "all_lots" = true)
  (eall_lots : PySem.W.keepIn K (.ref fall_lots) = true)
  (ais_truce_calendar : PySem.W.nsIn K mainGlobals "is_truce_calendar" = some (some (.ref fis_truce_calendar)))
  (lis_truce_calendar : K.lookup fis_truce_calendar = some ⟨ocis_truce_calendar, odis_truce_calendar, .func (PySem.W.fnOf "is_truce_calendar" "is_truce_calendar" (defArgs s_is_truce_calendar) (defBody s_is_truce_calendar) (defScope s_is_truce_calendar) .none kVis_truce_calendar dcis_truce_calendar pmis_truce_calendar anis_truce_calendar cdis_truce_calendar ctis_truce_calendar), slis_truce_calendar⟩)
  (dis_truce_calendar : PySem.W.codeIn K cdis_truce_calendar "is_truce_calendar" = true)
  (eis_truce_calendar : PySem.W.keepIn K (.ref fis_truce_calendar) = true)
  (acheck_calendar : PySem.W.nsIn K mainGlobals "check_calendar" = some (some (.ref fcheck_calendar)))
  (lcheck_calendar : K.lookup fcheck_calendar = some ⟨occheck_calendar, odcheck_calendar, .func (PySem.W.fnOf "check_calendar" "check_calendar" (defArgs s_check_calendar) (defBody s_check_calendar) (defScope s_check_calendar) .none kVcheck_calendar dccheck_calendar pmcheck_calendar ancheck_calendar cdcheck_calendar ctcheck_calendar), slcheck_calendar⟩)
  (dcheck_calendar : PySem.W.codeIn K cdcheck_calendar "check_calendar" = true)
  (echeck_calendar : PySem.W.keepIn K (.ref fcheck_calendar) = true)
  (araw_keeps : PySem.W.nsIn K mainGlobals "raw_keeps" = some (some (.ref fraw_keeps)))
  (lraw_keeps : K.lookup fraw_keeps = some ⟨ocraw_keeps, odraw_keeps, .func (PySem.W.fnOf "raw_keeps" "raw_keeps" (defArgs s_raw_keeps) (defBody s_raw_keeps) (defScope s_raw_keeps) .none kVraw_keeps dcraw_keeps pmraw_keeps anraw_keeps cdraw_keeps ctraw_keeps), slraw_keeps⟩)
  (draw_keeps : PySem.W.codeIn K cdraw_keeps "raw_keeps" = true)
  (eraw_keeps : PySem.W.keepIn K (.ref fraw_keeps) = true)
  (ais_kept_each : PySem.W.nsIn K mainGlobals "is_kept_each" = some (some (.ref fis_kept_each)))
  (lis_kept_each : K.lookup fis_kept_each = some ⟨ocis_kept_each, odis_kept_each, .func (PySem.W.fnOf "is_kept_each" "is_kept_each" (defArgs s_is_kept_each) (defBody s_is_kept_each) (defScope s_is_kept_each) .none kVis_kept_each dcis_kept_each pmis_kept_each anis_kept_each cdis_kept_each ctis_kept_each), slis_kept_each⟩)
  (dis_kept_each : PySem.W.codeIn K cdis_kept_each "is_kept_each" = true)
  (eis_kept_each : PySem.W.keepIn K (.ref fis_kept_each) = true)
  (akept_sevens : PySem.W.nsIn K mainGlobals "kept_sevens" = some (some (.ref fkept_sevens)))
  (lkept_sevens : K.lookup fkept_sevens = some ⟨ockept_sevens, odkept_sevens, .func (PySem.W.fnOf "kept_sevens" "kept_sevens" (defArgs s_kept_sevens) (defBody s_kept_sevens) (defScope s_kept_sevens) .none kVkept_sevens dckept_sevens pmkept_sevens ankept_sevens cdkept_sevens ctkept_sevens), slkept_sevens⟩)
  (dkept_sevens : PySem.W.codeIn K cdkept_sevens "kept_sevens" = true)
  (ekept_sevens : PySem.W.keepIn K (.ref fkept_sevens) = true)
  (afewest_more : PySem.W.nsIn K mainGlobals "fewest_more" = some (some (.ref ffewest_more)))
  (lfewest_more : K.lookup ffewest_more = some ⟨ocfewest_more, odfewest_more, .func (PySem.W.fnOf "fewest_more" "fewest_more" (defArgs s_fewest_more) (defBody s_fewest_more) (defScope s_fewest_more) .none kVfewest_more dcfewest_more pmfewest_more anfewest_more cdfewest_more ctfewest_more), slfewest_more⟩)
  (dfewest_more : PySem.W.codeIn K cdfewest_more "fewest_more" = true)
  (efewest_more : PySem.W.keepIn K (.ref ffewest_more) = true)
  (a_law_hand : PySem.W.nsIn K mainGlobals "_law_hand" = some (some (.ref f_law_hand)))
  (l_law_hand : K.lookup f_law_hand = some ⟨oc_law_hand, od_law_hand, .func (PySem.W.fnOf "_law_hand" "_law_hand" (defArgs s__law_hand) (defBody s__law_hand) (defScope s__law_hand) .none kV_law_hand dc_law_hand pm_law_hand an_law_hand cd_law_hand ct_law_hand), sl_law_hand⟩)
  (d_law_hand : PySem.W.codeIn K cd_law_hand "_law_hand" = true)
  (e_law_hand : PySem.W.keepIn K (.ref f_law_hand) = true)
  (a_law_draw : PySem.W.nsIn K mainGlobals "_law_draw" = some (some (.ref f_law_draw)))
  (l_law_draw : K.lookup f_law_draw = some ⟨oc_law_draw, od_law_draw, .func (PySem.W.fnOf "_law_draw" "_law_draw" (defArgs s__law_draw) (defBody s__law_draw) (defScope s__law_draw) .none kV_law_draw dc_law_draw pm_law_draw an_law_draw cd_law_draw ct_law_draw), sl_law_draw⟩)
  (d_law_draw : PySem.W.codeIn K cd_law_draw "_law_draw" = true)
  (e_law_draw : PySem.W.keepIn K (.ref f_law_draw) = true)
  (a_law_some : PySem.W.nsIn K mainGlobals "_law_some" = some (some (.ref f_law_some)))
  (l_law_some : K.lookup f_law_some = some ⟨oc_law_some, od_law_some, .func (PySem.W.fnOf "_law_some" "_law_some" (defArgs s__law_some) (defBody s__law_some) (defScope s__law_some) .none kV_law_some dc_law_some pm_law_some an_law_some cd_law_some ct_law_some), sl_law_some⟩)
  (d_law_some : PySem.W.codeIn K cd_law_some "_law_some" = true)
  (e_law_some : PySem.W.keepIn K (.ref f_law_some) = true)
  (a_law_calendar : PySem.W.nsIn K mainGlobals "_law_calendar" = some (some (.ref f_law_calendar)))
  (l_law_calendar : K.lookup f_law_calendar = some ⟨oc_law_calendar, od_law_calendar, .func (PySem.W.fnOf "_law_calendar" "_law_calendar" (defArgs s__law_calendar) (defBody s__law_calendar) (defScope s__law_calendar) .none kV_law_calendar dc_law_calendar pm_law_calendar an_law_calendar cd_law_calendar ct_law_calendar), sl_law_calendar⟩)
  (d_law_calendar : PySem.W.codeIn K cd_law_calendar "_law_calendar" = true)
  (e_law_calendar : PySem.W.keepIn K (.ref f_law_calendar) = true)
  (a_law_is : PySem.W.nsIn K mainGlobals "_law_is" = some (some (.ref f_law_is)))
  (l_law_is : K.lookup f_law_is = some ⟨oc_law_is, od_law_is, .func (PySem.W.fnOf "_law_is" "_law_is" (defArgs s__law_is) (defBody s__law_is) (defScope s__law_is) .none kV_law_is dc_law_is pm_law_is an_law_is cd_law_is ct_law_is), sl_law_is⟩)
  (d_law_is : PySem.W.codeIn K cd_law_is "_law_is" = true)
  (e_law_is : PySem.W.keepIn K (.ref f_law_is) = true)
  (a_law_is_kept : PySem.W.nsIn K mainGlobals "_law_is_kept" = some (some (.ref f_law_is_kept)))
  (l_law_is_kept : K.lookup f_law_is_kept = some ⟨oc_law_is_kept, od_law_is_kept, .func (PySem.W.fnOf "_law_is_kept" "_law_is_kept" (defArgs s__law_is_kept) (defBody s__law_is_kept) (defScope s__law_is_kept) .none kV_law_is_kept dc_law_is_kept pm_law_is_kept an_law_is_kept cd_law_is_kept ct_law_is_kept), sl_law_is_kept⟩)
  (d_law_is_kept : PySem.W.codeIn K cd_law_is_kept "_law_is_kept" = true)
  (e_law_is_kept : PySem.W.keepIn K (.ref f_law_is_kept) = true)
  (a_law_lots : PySem.W.nsIn K mainGlobals "_law_lots" = some (some (.ref f_law_lots)))
  (l_law_lots : K.lookup f_law_lots = some ⟨oc_law_lots, od_law_lots, .func (PySem.W.fnOf "_law_lots" "_law_lots" (defArgs s__law_lots) (defBody s__law_lots) (defScope s__law_lots) .none kV_law_lots dc_law_lots pm_law_lots an_law_lots cd_law_lots ct_law_lots), sl_law_lots⟩)
  (d_law_lots : PySem.W.codeIn K cd_law_lots "_law_lots" = true)
  (e_law_lots : PySem.W.keepIn K (.ref f_law_lots) = true)
  (alaw : PySem.W.nsIn K mainGlobals "law" = some (some (.ref flaw)))
  (llaw : K.lookup flaw = some ⟨oclaw, odlaw, .func (PySem.W.fnOf "law" "law" (defArgs s_law) (defBody s_law) (defScope s_law) .none kVlaw dclaw pmlaw anlaw cdlaw ctlaw), sllaw⟩)
  (dlaw : PySem.W.codeIn K cdlaw "law" = true)
  (elaw : PySem.W.keepIn K (.ref flaw) = true) :
  ∃ fd : FuncData, (∀ (s : Shared) (v : Value), BindsTo s fd ⟨[v], []⟩ [("script", v)]) ∧ ∀ base : Heap, K.In base → base.Ns mainGlobals mg → FnOk l.prog w K mg base CX0 7 fa fd ["script"] (spN K m_law) := by
  have e := hfa.symm.trans (PySem.W.mg_of X G alaw)
  cases e
  have T : Tp K mg := Tp.mk (PySem.W.mg_none_of X G babs)
    (PySem.W.mg_none_of X G ball)
    (PySem.W.mg_none_of X G bany)
    (PySem.W.mg_none_of X G bbool)
    (PySem.W.mg_none_of X G bdict)
    (PySem.W.mg_none_of X G bint)
    (PySem.W.mg_none_of X G bisinstance)
    (PySem.W.mg_none_of X G blen)
    (PySem.W.mg_none_of X G blist)
    (PySem.W.mg_none_of X G brange)
    (PySem.W.mg_none_of X G bsorted)
    (PySem.W.mg_none_of X G bstr)
    (PySem.W.mg_none_of X G btuple)
    (PySem.W.mg_none_of X G bzip)
    (⟨_, PySem.W.mg_of X G cMOST_PERIOD⟩)
    (⟨_, PySem.W.mg_of X G cMOST_RUN⟩)
    (⟨_, PySem.W.mg_of X G cMOST_SMALL⟩)
    (⟨_, _, PySem.W.mg_of X G ais_integer, fun_mk lis_integer dis_integer eis_integer, (fun_mk lis_integer dis_integer eis_integer).binds fun _ _ _ _ _ _ us hl => match us, hl with | [_], _ => rfl⟩)
    (⟨_, _, PySem.W.mg_of X G ais_within, fun_mk lis_within dis_within eis_within, (fun_mk lis_within dis_within eis_within).binds fun _ _ _ _ _ _ us hl => match us, hl with | [_, _, _], _ => rfl⟩)
    (⟨_, _, PySem.W.mg_of X G ais_sized, fun_mk lis_sized dis_sized eis_sized, (fun_mk lis_sized dis_sized eis_sized).binds fun _ _ _ _ _ _ us hl => match us, hl with | [_, _, _], _ => rfl⟩)
    (⟨_, _, PySem.W.mg_of X G ais_lot, fun_mk lis_lot dis_lot eis_lot, (fun_mk lis_lot dis_lot eis_lot).binds fun _ _ _ _ _ _ us hl => match us, hl with | [_, _], _ => rfl⟩)
    (⟨_, _, PySem.W.mg_of X G aall_lots, fun_mk lall_lots dall_lots eall_lots, (fun_mk lall_lots dall_lots eall_lots).binds fun _ _ _ _ _ _ us hl => match us, hl with | [_], _ => rfl⟩)
    (⟨_, _, PySem.W.mg_of X G ais_truce_calendar, fun_mk lis_truce_calendar dis_truce_calendar eis_truce_calendar, (fun_mk lis_truce_calendar dis_truce_calendar eis_truce_calendar).binds fun _ _ _ _ _ _ us hl => match us, hl with | [_], _ => rfl⟩)
    (⟨_, _, PySem.W.mg_of X G acheck_calendar, fun_mk lcheck_calendar dcheck_calendar echeck_calendar, (fun_mk lcheck_calendar dcheck_calendar echeck_calendar).binds fun _ _ _ _ _ _ us hl => match us, hl with | [_], _ => rfl⟩)
    (⟨_, _, PySem.W.mg_of X G araw_keeps, fun_mk lraw_keeps draw_keeps eraw_keeps, (fun_mk lraw_keeps draw_keeps eraw_keeps).binds fun _ _ _ _ _ _ us hl => match us, hl with | [_, _], _ => rfl⟩)
    (⟨_, _, PySem.W.mg_of X G ais_kept_each, fun_mk lis_kept_each dis_kept_each eis_kept_each, (fun_mk lis_kept_each dis_kept_each eis_kept_each).binds fun _ _ _ _ _ _ us hl => match us, hl with | [_, _], _ => rfl⟩)
    (⟨_, _, PySem.W.mg_of X G akept_sevens, fun_mk lkept_sevens dkept_sevens ekept_sevens, (fun_mk lkept_sevens dkept_sevens ekept_sevens).binds fun _ _ _ _ _ _ us hl => match us, hl with | [_], _ => rfl⟩)
    (⟨_, _, PySem.W.mg_of X G afewest_more, fun_mk lfewest_more dfewest_more efewest_more, (fun_mk lfewest_more dfewest_more efewest_more).binds fun _ _ _ _ _ _ us hl => match us, hl with | [_, _], _ => rfl⟩)
    (⟨_, _, PySem.W.mg_of X G a_law_hand, fun_mk l_law_hand d_law_hand e_law_hand, (fun_mk l_law_hand d_law_hand e_law_hand).binds fun _ _ _ _ _ _ us hl => match us, hl with | [_], _ => rfl⟩)
    (⟨_, _, PySem.W.mg_of X G a_law_draw, fun_mk l_law_draw d_law_draw e_law_draw, (fun_mk l_law_draw d_law_draw e_law_draw).binds fun _ _ _ _ _ _ us hl => match us, hl with | [_, _], _ => rfl⟩)
    (⟨_, _, PySem.W.mg_of X G a_law_some, fun_mk l_law_some d_law_some e_law_some, (fun_mk l_law_some d_law_some e_law_some).binds fun _ _ _ _ _ _ us hl => match us, hl with | [_, _], _ => rfl⟩)
    (⟨_, _, PySem.W.mg_of X G a_law_calendar, fun_mk l_law_calendar d_law_calendar e_law_calendar, (fun_mk l_law_calendar d_law_calendar e_law_calendar).binds fun _ _ _ _ _ _ us hl => match us, hl with | [_, _], _ => rfl⟩)
    (⟨_, _, PySem.W.mg_of X G a_law_is, fun_mk l_law_is d_law_is e_law_is, (fun_mk l_law_is d_law_is e_law_is).binds fun _ _ _ _ _ _ us hl => match us, hl with | [_, _], _ => rfl⟩)
    (⟨_, _, PySem.W.mg_of X G a_law_is_kept, fun_mk l_law_is_kept d_law_is_kept e_law_is_kept, (fun_mk l_law_is_kept d_law_is_kept e_law_is_kept).binds fun _ _ _ _ _ _ us hl => match us, hl with | [_, _, _], _ => rfl⟩)
    (⟨_, _, PySem.W.mg_of X G a_law_lots, fun_mk l_law_lots d_law_lots e_law_lots, (fun_mk l_law_lots d_law_lots e_law_lots).binds fun _ _ _ _ _ _ us hl => match us, hl with | [_], _ => rfl⟩)
  exact ⟨_, fun s v => .of_eq rfl, fun base _ _ => k_law T (fun_mk llaw dlaw elaw)⟩
end SLP

end
section
namespace SLP
open PySem L2 SL
/-! ### what the law draws -/
def HandOk (h : HS) : Prop := ∃ (cs : List Int) (i g m t : Int), h = [.lst (cs.map PV.int), .int i, .int g, .int m, .int t] ∧ 0 ≤ i ∧ 0 ≤ g ∧ ∀ c ∈ cs, 0 ≤ c
def drawT : SM := (sSeq (sIf (gTB (gBin pGt (gBin pIx (gVarB 0) (gC (.int 2))) (gC (.int 0)))) (sSeq (sAsg (gBin pMod (gB pInt (gCons (gBin pIx (gVarB 0) (gC (.int 2))) gNil)) (gVarB 1)) (tgName 4))
  (sSeq (sSetH (gVar 0) (gC (.int 2)) (gBin pDiv (gBin pIx (gVarB 0) (gC (.int 2))) (gVarB 1)))
  (sRet (gVar 4)))) sNx)
  (sSeq (sSetH (gVar 0) (gC (.int 4)) (gBin pAdd (gBin pIx (gVarB 0) (gC (.int 4))) (gC (.int 1))))
  (sSeq (sAsg (gBin pMod (gB pInt (gCons (gBin pMul (gB pInt (gCons (gBin pAdd (gBin pIx (gVarB 0) (gC (.int 3))) (gBin pMul (gC (.int 6151)) (gBin pIx (gVarB 0) (gC (.int 4))))) gNil)) (gC (.int 40692))) gNil)) (gC (.int 2147483399))) (tgName 2))
  (sSeq (sAsg (gBin pMod (gB pInt (gCons (gBin pMul (gVarB 2) (gBin pAdd (gBin pDiv (gVarB 2) (gC (.int 1223))) (gC (.int 52027)))) gNil)) (gC (.int 2147483629))) (tgName 2))
  (sSeq (sAsg (gBin pMod (gB pInt (gCons (gBin pMul (gVarB 2) (gBin pAdd (gBin pDiv (gVarB 2) (gC (.int 2671))) (gC (.int 69621)))) gNil)) (gC (.int 2147483647))) (tgName 2))
  (sRet (gBin pMod (gB pInt (gCons (gBin pDiv (gVarB 2) (gC (.int 32))) gNil)) (gVarB 1))))))))
def drawH : SM := (sIf (gAndT (gTB (gBin pEq (gBin pIx (gVarB 0) (gC (.int 2))) (gC (.int 0)))) (gTB (gBin pLt (gBin pIx (gVarB 0) (gC (.int 1))) (gB pLen (gCons (gBin pIx (gVarB 0) (gC (.int 0))) gNil))))) (sSeq (sAsg (gBin pIx (gBin pIx (gVarB 0) (gC (.int 0))) (gBin pIx (gVarB 0) (gC (.int 1)))) (tgName 3))
  (sSeq (sSetH (gVar 0) (gC (.int 1)) (gBin pAdd (gBin pIx (gVarB 0) (gC (.int 1))) (gC (.int 1))))
  (sSeq (sSetH (gVar 0) (gC (.int 3)) (gBin pMod (gB pInt (gCons (gBin pAdd (gBin pAdd (gBin pMul (gBin pIx (gVarB 0) (gC (.int 3))) (gC (.int 48271))) (gVarB 3)) (gC (.int 31))) gNil)) (gC (.int 2147483647))))
  (sIf (gTB (gBin pGe (gVarB 3) (gBin pPow (gC (.int 10)) (gC (.int 18))))) (sSetH (gVar 0) (gC (.int 2)) (gVar 3)) sNx)))) sNx)
theorem draw_is : b__law_draw = sSeq drawH drawT := rfl
theorem draw_tail {cs : List Int} {i g m t n : Int} (hg : 0 ≤ g) (hi : 0 ≤ i) (hc : ∀ c ∈ cs, 0 ≤ c) (h0 : 0 < n) (h1 : n < 2 ^ 64) {c : Slot} :
    Ok ((drawT [.fz .hand, .fz (.int n), .un, c, .un]) >>= fin)
    (fun p h' => ∃ r : Int, p = .int r ∧ 0 ≤ r ∧ r < n ∧ HandOk h') [.lst (cs.map PV.int), .int i, .int g, .int m, .int t] := by
  have e1 := fun x : Int => v_modP (n := x) h0
  have e2 := fun x : Int => v_divP (n := x) h0 h1
  unfold drawT
  by_cases hg0 : 0 < g
  · simp [hg0, e1, e2]
    exact ⟨Int.emod_nonneg _ (by omega), Int.emod_lt_of_pos _ h0, cs, i, g / n, m, t, rfl, hi, Int.ediv_nonneg hg (by omega), hc⟩
  · simp [hg0, e1]
    exact ⟨Int.emod_nonneg _ (by omega), Int.emod_lt_of_pos _ h0, cs, i, g, m, t + 1, rfl, hi, hg, hc⟩
theorem cell_at {cs : List Int} {i : Int} (h0 : 0 ≤ i) (h1 : i < cs.length) : ∃ c, c ∈ cs ∧ atI (cs.map PV.int) i = some (.int c) := by
  refine ⟨cs[i.toNat]'(by omega), List.getElem_mem _, ?_⟩
  rw [atI_map, atI_lt h0 h1]
  rfl
theorem draw_ok {h : HS} {n : Int} (hh : HandOk h) (h0 : 0 < n) (h1 : n < 2 ^ 64) : Ok (m__law_draw [.hand, .int n]) (fun p h' => ∃ r : Int, p = .int r ∧ 0 ≤ r ∧ r < n ∧ HandOk h') h := by
  obtain ⟨cs, i, g, m, t, rfl, hi, hg, hc⟩ := hh
  rw [u__law_draw]
  rw [draw_is, e_seq, bind_assoc]
  unfold drawH
  by_cases c1 : g = 0 ∧ i < cs.length
  · obtain ⟨rfl, c2⟩ := c1
    obtain ⟨c, hcm, ec⟩ := cell_at hi c2
    have hc0 := hc c hcm
    by_cases c3 : 1000000000000000000 ≤ c
    · simp [c2, ec, c3]
      exact draw_tail (by omega) (by omega) hc h0 h1
    · simp [c2, ec, c3]
      exact draw_tail (by omega) (by omega) hc h0 h1
  · have c2 : (g == 0) = true → ¬ i < cs.length := fun e z => c1 ⟨by simpa using e, z⟩
    by_cases c3 : g = 0
    · have c4 : ¬ i < cs.length := fun z => c1 ⟨c3, z⟩
      simp [c3, c4]
      exact draw_tail (by omega) (by omega) hc h0 h1
    · simp [c3]
      exact draw_tail (by omega) (by omega) hc h0 h1
end SLP

end
section
namespace SLP
open PySem L2 SL
/-! ### the hand, a thing drawn from a row -/
theorem hand_ok {ns : List Int} : ∃ cs : List Int, (∀ c ∈ cs, 0 ≤ c) ∧ m__law_hand [.scr ns] = pure (.lst [.lst (cs.map PV.int), .int 0, .int 0, .int (97 + 5 * cs.length), .int 0]) := by
  refine ⟨(cut ns none (some 63)).map fun x => if x < 0 then -x else x, fun c hc => ?_, ?_⟩
  · obtain ⟨x, _, rfl⟩ := List.mem_map.mp hc
    show (0:Int) ≤ if x < 0 then -x else x
    split <;> omega
  · rw [u__law_hand]
    unfold b__law_hand
    simp [pSl]
    rw [lc_all (ρ' := fun x => [.fz (.scr ns), .un, .fz (.int x)]) (e := fun x => PV.int (if x < 0 then -x else x)) (by intro x _; simp)]
    simp
    rfl
theorem hand_start (cs : List Int) (m : Int) (hc : ∀ c ∈ cs, 0 ≤ c) : HandOk [.lst (cs.map PV.int), .int 0, .int 0, .int m, .int 0] := ⟨cs, 0, 0, m, 0, rfl, by omega, by omega, hc⟩
/-! ### equal also in kind -/
def plainD : Nat → PV → Bool
  | _, .non => true
  | _, .int _ => true
  | _, .bl _ => true
  | _, .str x => SeqAt.shaped (.str x)
  | d + 1, .tup l => l.all (plainD d)
  | d + 1, .lst l => l.all (plainD d)
  | _, _ => false
theorem zip_self {α : Type} : ∀ l : List α, l.zip l = l.map fun x => (x, x)
  | [] => rfl
  | x :: l => by rw [List.zip_cons_cons, zip_self l]; rfl
theorem is_list {d : Nat} (ih : ∀ p, plainD d p = true → m__law_is (d + 1) [p, p] = pure (.bl true)) {l : List PV} (h : l.all (plainD d) = true) {ρ : Ev} {a b c e f : Slot} : 
    lcF (tgTup 2 (tgCons (tgName 3) (tgCons (tgName 4) tgNil))) gYes (gB (m__law_is (d + 1)) (gCons (gVar 3) (gCons (gVar 4) gNil))) [a, b, c, e, f] ((l.zip l).map fun t => .tup [t.1, t.2]) = pure (l.map fun _ => PV.bl true) := by
  rw [zip_self, List.map_map]
  have := lc_all (gt := tgTup 2 (tgCons (tgName 3) (tgCons (tgName 4) tgNil))) (ge := gB (m__law_is (d + 1)) (gCons (gVar 3) (gCons (gVar 4) gNil))) (ρ := [a, b, c, e, f]) (φ := fun x : PV => PV.tup [x, x]) (ρ' := fun x => [a, b, c, .fz x, .fz x]) (e := fun _ => PV.bl true) (l := l) (fun x hx => by
    have hp := ih x (by rw [List.all_eq_true] at h; exact h x hx)
    simp [guard_pos, hp])
  exact this
theorem is_refl : ∀ (d : Nat) (p : PV), plainD d p = true → m__law_is (d + 1) [p, p] = pure (.bl true)
  | _, .non, _ => by
    rw [u__law_is]; unfold b__law_is
    simp [isNon]
    rfl
  | _, .int i, _ => by
    rw [u__law_is]; unfold b__law_is
    simp [isNon]
  | _, .bl b, _ => by
    rw [u__law_is]; unfold b__law_is
    simp [isNon]
  | _, .str x, h => by
    rw [u__law_is]; unfold b__law_is
    simp [isNon]
  | 0, .tup l, h => by cases h
  | 0, .lst l, h => by cases h
  | d + 1, .tup l, h => by
    have h : l.all (plainD d) = true := h
    rw [u__law_is]; unfold b__law_is
    simp [is_list (is_refl d) h (ρ := []), v_all]
    rw [List.all_eq_true.mpr fun _ _ => rfl]
  | d + 1, .lst l, h => by
    have h : l.all (plainD d) = true := h
    rw [u__law_is]; unfold b__law_is
    simp [is_list (is_refl d) h (ρ := []), v_all]
    rw [List.all_eq_true.mpr fun _ _ => rfl]
  | d, .dK _, h => by cases d <;> cases h
  | d, .dT _, h => by cases d <;> cases h
  | d, .ty _, h => by cases d <;> cases h
  | d, .hand, h => by cases d <;> cases h
  | d, .scr _, h => by cases d <;> cases h
end SLP

end
section
namespace SLP
open PySem L2 SL
theorem within_int {x lo hi : Int} : m_is_within [.int x, .int lo, .int hi] = pure (.bl (decide (lo ≤ x) && decide (x ≤ hi))) := by
  rw [u_is_within]; unfold b_is_within
  have e : m_is_integer [.int x] = pure (.bl true) := by
    rw [u_is_integer]; unfold b_is_integer
    simp
  simp [e]
  by_cases h : lo ≤ x <;> simp [h]
theorem sized_tup {l : List PV} {lo hi : Int} : m_is_sized [.tup l, .int lo, .int hi] = pure (.bl (decide (lo ≤ l.length) && decide ((l.length : Int) ≤ hi))) := by
  rw [u_is_sized]; unfold b_is_sized
  simp
  by_cases h : lo ≤ (l.length : Int) <;> simp [h]
theorem lot_ok {n : Nat} {A : List Int} (h : LotOk n A) : m_is_lot [iT A, .int n] = pure (.bl true) := by
  rw [u_is_lot]; unfold b_is_lot
  simp [iT]
  rw [lc_all (ρ' := fun x => [.fz (iT A), .fz (.int n), .fz (.int x), .un]) (e := fun x => PV.bl (decide (0 ≤ x) && decide (x ≤ n - 1))) (by intro x _; simp [within_int, iT])]
  have hl : (A.all fun x => decide (0 ≤ x) && decide (x ≤ (n : Int) - 1)) = true := by
    rw [List.all_eq_true]
    intro x hx
    have := h.bd x hx
    simp
    omega
  simp [v_all, hl, cut1]
  rw [← List.drop_one, ← List.map_drop, List.zip_map, List.map_map]
  rw [lc_all (ρ' := fun t => [.fz (iT A), .fz (.int n), .fz (.int t.1), .fz (.int t.2)]) (e := fun t : Int × Int => PV.bl (decide (t.1 < t.2))) (by intro x _; simp [iT])]
  have hz : ((A.zip (A.drop 1)).all fun t => decide (t.1 < t.2)) = true := by
    rw [List.all_eq_true]
    intro t ht
    simpa using zip_next h.asc t ht
  rw [List.drop_one] at hz
  simp [v_all, hz]
end SLP

end
section
namespace SLP
open PySem L2 SL
/-! ### all_lots -/
def addOne (F : List (List Int)) (x : Int) : List (List Int) := F ++ F.map (· ++ [x])
def lotsF (free : List Int) : List (List Int) := free.foldl addOne [[]]
def sized (x : List Int) : PV := .tup [.int x.length, iT x]
def sizedD (x : List Int) : PyData := .tuple [.int x.length, .tuple (x.map .int)]
def lotLe (a b : List Int) : Bool := PySem.W.dataLe false (fun t : PV × PyData => t.2) (sized a, sizedD a) (sized b, sizedD b)
def lots (free : List Int) : List (List Int) := (lotsF free).mergeSort lotLe
theorem foldl_len : ∀ (l : List Int) (F : List (List Int)), (l.foldl addOne F).length = F.length * 2 ^ l.length
  | [], F => by simp
  | x :: l, F => by
    rw [List.foldl_cons, foldl_len l]
    unfold addOne
    rw [List.length_append, List.length_map, List.length_cons, Nat.pow_succ]
    rw [← Nat.mul_two, Nat.mul_assoc, Nat.mul_comm 2]
theorem foldl_sub : ∀ (l m : List Int) (F : List (List Int)), (∀ x ∈ F, x.Sublist m) → ∀ x ∈ l.foldl addOne F, x.Sublist (m ++ l)
  | [], m, F, h, x, hx => by rw [List.append_nil]; exact h x hx
  | y :: l, m, F, h, x, hx => by
    have := foldl_sub l (m ++ [y]) (addOne F y) (fun z hz => by
      unfold addOne at hz
      rcases List.mem_append.mp hz with hz | hz
      · exact (h z hz).trans (List.sublist_append_left _ _)
      · obtain ⟨u, hu, rfl⟩ := List.mem_map.mp hz
        exact (h u hu).append (.refl _)) x hx
    rw [List.append_assoc] at this
    exact this
theorem foldl_all : ∀ (l m : List Int) (F : List (List Int)), m ∈ F → m ++ l ∈ l.foldl addOne F
  | [], m, F, h => by rw [List.append_nil]; exact h
  | y :: l, m, F, h => by
    have := foldl_all l (m ++ [y]) (addOne F y) (List.mem_append_right _ (List.mem_map.mpr ⟨m, h, rfl⟩))
    rw [List.append_assoc] at this
    exact this
theorem lotsF_sub {free x : List Int} (h : x ∈ lotsF free) : x.Sublist free := by
  have := foldl_sub free [] [[]] (fun x hx => by rw [List.mem_singleton.mp hx]; exact .refl _) x h
  simpa using this
theorem lotsF_all (free : List Int) : free ∈ lotsF free := by
  have := foldl_all free [] [[]] List.mem_cons_self
  rw [List.nil_append] at this
  exact this
theorem lots_sub {free x : List Int} (h : x ∈ lots free) : x.Sublist free := lotsF_sub (List.mem_mergeSort.mp h)
theorem lots_all (free : List Int) : free ∈ lots free := List.mem_mergeSort.mpr (lotsF_all free)
theorem alike_ints : ∀ a b : List Int, PySem.W.alikeAll (a.map PyData.int) (b.map PyData.int) = true
  | [], _ => by cases ‹List Int› <;> rfl
  | _ :: _, [] => rfl
  | x :: a, y :: b => by
    show (PySem.W.alike (.int x) (.int y) && PySem.W.alikeAll (a.map PyData.int) (b.map PyData.int)) = true
    rw [alike_ints a b]; rfl
theorem sized_toD (x : List Int) : toD (sized x) = some (sizedD x) := by
  unfold sized iT
  rw [toD, toDs, toD, toDs, toD, toDs_ints]
  rfl
theorem toDs_map {α : Type} {f : α → PV} {d : α → PyData} (h : ∀ x, toD (f x) = some (d x)) : ∀ l : List α, toDs (l.map f) = some (l.map d)
  | [] => rfl
  | x :: l => by rw [List.map_cons, toDs, h x, toDs_map h l]; rfl
theorem zip_maps {α β γ : Type} (f : α → β) (g : α → γ) : ∀ l : List α, (l.map f).zip (l.map g) = l.map fun x => (f x, g x)
  | [] => rfl
  | x :: l => by rw [List.map_cons, List.map_cons, List.zip_cons_cons, zip_maps f g l, List.map_cons]
theorem sort_sized (F : List (List Int)) : sortP (F.map sized) = pure (.lst ((F.mergeSort lotLe).map sized)) := by
  unfold sortP
  rw [toDs_map sized_toD]
  show guardM _ _ = _
  rw [guard_pos]
  · unfold sorts
    rw [zip_maps, ← mergeSort_map' (fun x : List Int => (sized x, sizedD x)) (PySem.W.dataLe false (·.2)) F, List.map_map]
    rfl
  · refine ⟨List.all_eq_true.mpr fun d hd => List.all_eq_true.mpr fun e he => ?_, ?_, List.all_eq_true.mpr fun d hd => ?_⟩
    · obtain ⟨a, _, rfl⟩ := List.mem_map.mp hd
      obtain ⟨b, _, rfl⟩ := List.mem_map.mp he
      show (PySem.W.alike (.int a.length) (.int b.length) && (PySem.W.alikeAll (a.map PyData.int) (b.map PyData.int) && true)) = true
      rw [alike_ints]; rfl
    · unfold sortB
      rw [Bool.or_eq_true]
      refine .inl (List.all_eq_true.mpr fun d hd => ?_)
      obtain ⟨a, _, rfl⟩ := List.mem_map.mp hd
      rfl
    · obtain ⟨a, _, rfl⟩ := List.mem_map.mp hd
      refine decide_eq_true ?_
      have h := PySem.W.depth_ints a
      show PyData.depth (.tuple [.int a.length, .tuple (a.map .int)]) ≤ 32
      simp only [PyData.depth, PyData.depthAll, h]
      decide
theorem all_lots_ok {free : List Int} (h : free.length ≤ 12) : m_all_lots [iL free] = pure (.lst ((lots free).map iT)) := by
  rw [u_all_lots]; unfold b_all_lots
  rw [e_seq]
  simp only [e_asg, e_lst, e_cons, e_tup, e_nil, pure_bind, e_tname, List.length_nil, List.length_cons, List.length_singleton, bind_assoc]
  rw [guard_pos (by decide)]
  simp only [pure_bind]
  rw [guard_pos (by decide)]
  simp only [pure_bind]
  rw [e_seq, bind_assoc]
  simp only [e_sfor, e_seqT, e_var]
  show ((slF (some (.fz (iL free))) >>= _) >>= _) >>= _ = _
  simp only [e_slF, pure_bind, iL]
  obtain ⟨s', e⟩ := fold_loop (st := fun (F : List (List Int)) s => [.fz (iL free), .fz (.lst (F.map iT)), s, .un, .un]) (gt := tgName 2) (gb := (sAsg (gBin pAdd (gVarB 1) (gLc (iSeq (gVar 1)) (tgName 4) gYes (gBin pAdd (gVarB 4) (gTup (gCons (gVar 2) gNil))) [4])) (tgName 1))) (g := addOne) (φ := PV.int) (l := free) (a := [[]]) (fun pre x suf e s => by
    have hl : pre.length + 1 + suf.length = free.length := by rw [e]; simp; omega
    refine ⟨.fz (.int x), ?_⟩
    have hF : ((pre.foldl addOne [[]]).map iT).length ≤ 2 ^ 12 := by
      rw [List.length_map, foldl_len, List.length_singleton, Nat.one_mul]
      exact Nat.pow_le_pow_right (by decide) (by omega)
    have hS : ∀ y ∈ pre.foldl addOne [[]], y.length ≤ 12 := fun y hy => by
      have := (lotsF_sub hy).length_le
      omega
    generalize pre.foldl addOne [[]] = F at hF hS
    simp
    rw [lc_all (ρ' := fun y => [.fz (iL free), .fz (.lst (F.map iT)), .fz (.int x), .un, .fz (iT y)]) (e := fun y => iT (y ++ [x])) (by
      intro y hy
      have := hS y hy
      simp [iT]
      rw [guard_pos (by rw [List.length_map]; omega)])]
    have hm : (F.map fun y => iT (y ++ [x])).length = (F.map iT).length := by simp
    simp
    rw [guard_pos (by rw [hm]; simp at hF; simp; omega)]
    simp only [addOne, List.map_append, List.map_map]
    rfl
    ) .un
  have e' : forF (tgName 2) (sAsg (gBin pAdd (gVarB 1) (gLc (iSeq (gVar 1)) (tgName 4) gYes (gBin pAdd (gVarB 4) (gTup (gCons (gVar 2) gNil))) [4])) (tgName 1)) (free.map PV.int) [.fz (.lst (free.map PV.int)), .fz (.lst [.tup []]), .un, .un, .un] = _ := e
  show forF (tgName 2) (sAsg (gBin pAdd (gVarB 1) (gLc (iSeq (gVar 1)) (tgName 4) gYes (gBin pAdd (gVarB 4) (gTup (gCons (gVar 2) gNil))) [4])) (tgName 1)) (free.map PV.int) [.fz (.lst (free.map PV.int)), .fz (.lst [.tup []]), .un, .un, .un] >>= _ = _
  rw [e', pure_bind]
  show (sRet _ [.fz (iL free), .fz (.lst ((lotsF free).map iT)), s', .un, .un]) >>= fin = _
  simp
  rw [lc_all (ρ' := fun y => [.fz (iL free), .fz (.lst ((lotsF free).map iT)), s', .un, .fz (iT y)]) (e := sized) (by
    intro y _
    simp [iT, sized])]
  simp
  show (sortP _ >>= _) = _
  rw [sort_sized]
  simp
  show PV.lst <$> lcF _ _ _ _ ((lots free).map sized) = _
  rw [lc_all (ρ' := fun y => [.fz (iL free), .fz (.lst ((lotsF free).map iT)), s', .fz (.int y.length), .fz (iT y)]) (e := iT) (by
    intro y _
    simp [sized])]
  simp
theorem law_lots_is : m__law_lots = m_all_lots := rfl
end SLP

end
section
namespace SLP
open PySem L2 SL
def cal (n : Nat) (A : List Int) : PV := .tup [.int n, iT A]
theorem check_ok {n : Nat} {A : List Int} (h1 : 1 ≤ n) (h2 : n ≤ 30) (h : LotOk n A) : m_check_calendar [cal n A] = pure .non := by
  rw [u_check_calendar]; unfold b_check_calendar
  have e : m_is_truce_calendar [cal n A] = pure (.bl true) := by
    rw [u_is_truce_calendar]; unfold b_is_truce_calendar
    have g1 : (1 : Int) ≤ n := by omega
    have g2 : (n : Int) ≤ 30 := by omega
    simp [cal, sized_tup, within_int, lot_ok h, g1, g2]
  simp [e]
def at' (n : Nat) (A : List Int) (b s : Nat) : Bool := decide ((((b + s) % n : Nat) : Int) ∈ A)
def kp (n : Nat) (A : List Int) (run : Nat) : Bool := (List.range n).all fun b => (List.range run).any fun s => at' n A b s
theorem kept_each {n run : Nat} {A : List Int} (h1 : 1 ≤ n) (h2 : n ≤ 30) (h3 : run ≤ 30) : m_is_kept_each [cal n A, .int run] = pure (.bl (kp n A run)) := by
  rw [u_is_kept_each]; unfold b_is_kept_each
  have g : -4611686018427387904 ≤ (n : Int) ∧ (n : Int) ≤ 16777216 := by omega
  simp [cal, g, rng0]
  obtain ⟨s', e⟩ := forall_loopN (f := fun s => [.fz (cal n A), .fz (.int run), s, .un]) (i := 2) (fun _ _ => rfl) (t := gTru (gB pAny (gCons (gLc (iRange (gCons (gVar 2) (gCons (gBin pAdd (gVarB 2) (gVarB 1)) gNil))) (tgName 3) gYes (gB m_raw_keeps (gCons (gVar 0) (gCons (gVar 3) gNil))) [3]) gNil))) (c := fun b => (List.range run).any fun s => at' n A b s) (φ := fun b : Nat => PV.int b) (v := .bl false) (l := List.range n) (by
    intro b hb
    have hb := List.mem_range.mp hb
    have g2 : (b : Int) + run - b = run := by omega
    simp [g2]
    unfold rng
    rw [guard_pos (by omega), pure_bind, lc_all (ρ' := fun s : Nat => [.fz (cal n A), .fz (.int run), .fz (.int b), .fz (.int (b + s))]) (e := fun s : Nat => PV.bl (at' n A b s)) (by
      intro s _
      have p := v_modP (n := (b : Int) + (s : Int)) (show (0 : Int) < n by omega)
      have ek : m_raw_keeps [cal n A, .int (b + s)] = pure (.bl (at' n A b s)) := by
        rw [u_raw_keeps]; unfold b_raw_keeps
        simp [cal, p, iT, v_inI]
        rfl
      simp [ek])]
    simp [v_any]) .un
  simp only [cal] at e
  rw [e]
  show _ = pure (PV.bl (kp n A run))
  have : ((List.range n).all fun b => (List.range run).any fun s => at' n A b s) = kp n A run := rfl
  rw [this]
  cases kp n A run <;> simp
end SLP
namespace SLP
open PySem L2 SL
theorem lkept {n run : Nat} {A : List Int} (h1 : 1 ≤ n) (h2 : n ≤ 30) (h3 : run ≤ 30) : m__law_is_kept [.int n, iT A, .int run] = pure (.bl (kp n A run)) := by
  rw [u__law_is_kept]; unfold b__law_is_kept
  have g : -4611686018427387904 ≤ (n : Int) ∧ (n : Int) ≤ 16777216 := by omega
  simp [g, rng0]
  obtain ⟨s', e⟩ := forall_loopN (f := fun s => [.fz (.int n), .fz (iT A), .fz (.int run), s, .un]) (i := 3) (fun _ _ => rfl) (t := gTru (gB pAny (gCons (gLc (iRange (gCons (gVar 2) gNil)) (tgName 4) gYes (gBin pIn (gBin pMod (gB pInt (gCons (gBin pAdd (gVarB 3) (gVarB 4)) gNil)) (gVarB 0)) (gVarB 1)) [4]) gNil))) (c := fun b => (List.range run).any fun s => at' n A b s) (φ := fun b : Nat => PV.int b) (v := .bl false) (l := List.range n) (by
    intro b hb
    have hb := List.mem_range.mp hb
    have g : -4611686018427387904 ≤ (run : Int) ∧ (run : Int) ≤ 16777216 := by omega
    simp [g, rng0]
    rw [lc_all (ρ' := fun s : Nat => [.fz (.int n), .fz (iT A), .fz (.int run), .fz (.int b), .fz (.int s)]) (e := fun s : Nat => PV.bl (at' n A b s)) (by
      intro s _
      have p := v_modP (n := (b : Int) + (s : Int)) (show (0 : Int) < n by omega)
      simp [p, iT, v_inI]
      rfl)]
    simp [v_any]) .un
  rw [e]
  have : ((List.range n).all fun b => (List.range run).any fun s => at' n A b s) = kp n A run := rfl
  rw [this]
  cases kp n A run <;> simp
theorem sevens {n : Nat} {A : List Int} (h1 : 1 ≤ n) (h2 : n ≤ 30) (h : LotOk n A) : m_kept_sevens [cal n A] = pure (.bl (kp n A 7)) := by
  rw [u_kept_sevens]; unfold b_kept_sevens
  have := kept_each (A := A) (run := 7) h1 h2 (by decide)
  simp [check_ok h1 h2 h]
  exact this
theorem kp_perm {n run : Nat} {A B : List Int} (h : ∀ x, x ∈ A ↔ x ∈ B) : kp n A run = kp n B run := by
  unfold kp at'
  congr; funext b; congr; funext s
  rw [decide_eq_decide]
  exact h _
def freeOf (n : Nat) (A : List Int) : List Int := ((List.range n).filter fun i : Nat => !decide ((i : Int) ∈ A)).map fun (i : Nat) => (i : Int)
theorem free_lc {n : Nat} {A : List Int} {j : Nat} {ρ : Ev} {ga : EM} (h : ∀ i : Nat, (gTB (gBin pNotIn (gVarB j) ga)) (ρ.set j (.fz (.int i))) = pure (!decide ((i : Int) ∈ A)) ∧ gVar j (ρ.set j (.fz (.int i))) = pure (.int i)) :
    lcF (tgName j) (gTB (gBin pNotIn (gVarB j) ga)) (gVar j) ρ (rng 0 n) = pure ((freeOf n A).map PV.int) := by
  rw [rng0, lc_map (ρ' := fun i : Nat => ρ.set j (.fz (.int i))) (c := fun i : Nat => !decide ((i : Int) ∈ A)) (e := fun i : Nat => PV.int i) (fun i _ => ⟨rfl, (h i).1, fun _ => (h i).2⟩)]
  unfold freeOf
  rw [List.map_map]; rfl
theorem free_len {n : Nat} {A : List Int} : (freeOf n A).length ≤ n := by
  unfold freeOf
  rw [List.length_map]
  have := List.length_filter_le (fun i : Nat => !decide ((i : Int) ∈ A)) (List.range n)
  simpa using this
theorem full {n run : Nat} {A : List Int} (h : 1 ≤ run) : kp n (A ++ freeOf n A) run = true := by
  unfold kp
  rw [List.all_eq_true]
  intro b hb
  rw [List.any_eq_true]
  have hb' := List.mem_range.mp hb
  refine ⟨0, List.mem_range.mpr (by omega), ?_⟩
  unfold at'
  rw [Nat.add_zero, Nat.mod_eq_of_lt hb']
  refine decide_eq_true ?_
  by_cases hm : (b : Int) ∈ A
  · exact List.mem_append_left _ hm
  · refine List.mem_append_right _ (List.mem_map.mpr ⟨b, List.mem_filter.mpr ⟨hb, by simp [hm]⟩, rfl⟩)
def ans : Option (List Int) → PV
  | some x => .tup [.int x.length, iT x]
  | none => .non
theorem fewest_ok {n run : Nat} {A : List Int} (h1 : 1 ≤ n) (h2 : n ≤ 8) (h : LotOk n A) (hA : A.length ≤ n) (r1 : 1 ≤ run) (r2 : run ≤ 30) : m_fewest_more [cal n A, .int run] = pure (ans ((lots (freeOf n A)).find? fun x => kp n (A ++ x) run)) := by
  rw [u_fewest_more]; unfold b_fewest_more
  have g1 : (1 : Int) ≤ run := by omega
  have g2 : (run : Int) ≤ 30 := by omega
  have g3 : ¬ (12 : Int) < n := by omega
  have g4 : -4611686018427387904 ≤ (n : Int) ∧ (n : Int) ≤ 16777216 := by omega
  have hc := check_ok h1 (by omega) h
  simp only [cal] at hc
  simp [hc, within_int, g1, g2, cal, g3, g4]
  rw [free_lc (A := A) (fun i => by simp [iT, v_ninI])]
  have hl := all_lots_ok (free := freeOf n A) (by have := free_len (n := n) (A := A); omega)
  simp only [iL] at hl
  simp [hl]
  obtain ⟨s', e⟩ := find_loop (f := fun s => [.fz (cal n A), .fz (.int run), s, .fz (.int n), .fz (iT A), .un]) (i := 2) (fun _ _ => rfl) (t := gTru (gB m_is_kept_each (gCons (gTup (gCons (gVar 3) (gCons (gB pTuple (gCons (gB pSorted (gCons (gBin pAdd (gVarB 4) (gVarB 2)) gNil)) gNil)) gNil))) (gCons (gVar 1) gNil)))) (g := gTup (gCons (gB pLen (gCons (gVarB 2) gNil)) (gCons (gVar 2) gNil)))
    (c := fun x => kp n (A ++ x) run) (φ := iT) (e := fun x => .tup [.int x.length, iT x]) (l := lots (freeOf n A)) (by
    intro x hx
    have hxl : x.length ≤ 8 := by
      have := (lots_sub hx).length_le
      have := free_len (n := n) (A := A)
      omega
    have hs : pSorted [.tup (A.map PV.int ++ x.map PV.int)] = pure (.lst (((A ++ x).mergeSort fun a b => decide (a ≤ b)).map PV.int)) := by
      rw [← List.map_append]
      exact sortP_ints (A ++ x)
    have hk := kept_each (A := (A ++ x).mergeSort fun a b => decide (a ≤ b)) h1 (by omega : n ≤ 30) r2
    simp only [cal, iT] at hk
    rw [kp_perm (B := A ++ x) (fun y => List.mem_mergeSort)] at hk
    constructor
    · simp [iT]
      rw [guard_pos (by simp; omega)]
      simp [hs, hk]
    · intro _
      simp [iT]) .un
  simp only [cal] at e
  rw [e]
  cases (lots (freeOf n A)).find? (fun x => kp n (A ++ x) run) with
  | none => simp [ans]
  | some x => simp [ans]
end SLP

end
section
namespace SLP
open PySem L2 SL
theorem some_ok {h : HS} {l : List PV} (hh : HandOk h) (h0 : 0 < l.length) (h1 : l.length < 1000) : Ok (m__law_some [.hand, .lst l]) (fun p h' => p ∈ l ∧ HandOk h') h := by
  rw [u__law_some]; unfold b__law_some
  simp
  refine (draw_ok hh (by omega) (by omega)).bind' fun p h1 ⟨r, e, r0, r2, hh1⟩ => ?_
  subst e
  rw [v_ixL, atI_lt r0 r2]
  simp [hh1]
end SLP

end
section
namespace SLP
open PySem L2 SL
theorem cal_ok {h : HS} {most : Int} (hh : HandOk h) (m1 : 1 ≤ most) (m2 : most ≤ 30) : Ok (m__law_calendar [.hand, .int most]) (fun p h' => ∃ (n : Nat) (A : List Int), p = cal n A ∧ 1 ≤ n ∧ n ≤ most ∧ LotOk n A ∧ A.length ≤ n ∧ HandOk h') h := by
  rw [u__law_calendar]; unfold b__law_calendar
  rw [e_seq, bind_assoc]
  simp
  refine (draw_ok hh (by omega) (by omega)).bind' fun p h1 ⟨r, e, r0, r2, hh1⟩ => ?_
  subst e
  obtain ⟨n, hn⟩ : ∃ n : Nat, 1 + r = n := ⟨(1 + r).toNat, by omega⟩
  simp [hn]
  refine (some_ok hh1 (by decide) (by decide)).bind' fun p h2 ⟨hp, hh2⟩ => ?_
  obtain ⟨q, rfl, q0, q1⟩ : ∃ q : Int, p = .int q ∧ 0 < q ∧ q < 9 := by
    simp at hp
    rcases hp with rfl | rfl | rfl
    · exact ⟨_, rfl, by omega, by omega⟩
    · exact ⟨_, rfl, by omega, by omega⟩
    · exact ⟨_, rfl, by omega, by omega⟩
  have g : -4611686018427387904 ≤ (n : Int) ∧ (n : Int) ≤ 16777216 := by omega
  simp [g, rng0]
  refine (ok_lcT (I := HandOk) (φ := fun i : Nat => PV.int i) (e := fun i : Nat => PV.int i) hh2 fun i _ h hI => ?_).mono fun ys h3 ⟨m, hm, e, hh3⟩ => ?_
  · refine ⟨_, rfl, ?_, rfl⟩
    simp
    refine (draw_ok hI q0 (by omega)).bind' fun p h4 ⟨r, e, r0, r2, hh4⟩ => ?_
    subst e
    simp [hh4]
  · subst e
    refine ⟨n, m.map fun (i : Nat) => (i : Int), ?_, by omega, by omega, LotOk.of_sub hm, by have := LotOk.len hm; simpa using this, hh3⟩
    simp [cal, iT]
def Inv (ρ : Ev) (h : HS) : Prop := ∃ s0 s2 s3 s4 s5 s6 s7 s8 s9 s10, ρ = [s0, .fz .hand, s2, s3, s4, s5, s6, s7, s8, s9, s10] ∧ HandOk h
def lap : SM := (sSeq (sAsg (gB m__law_calendar (gCons (gVar 1) (gCons (gC (.int 30)) gNil))) (tgName 3))
  (sSeq (sIf (gNotT (gTru (gB (m__law_is 4) (gCons (gB m_kept_sevens (gCons (gVar 3) gNil)) (gCons (gB m__law_is_kept (gCons (gBin pIx (gVarB 3) (gC (.int 0))) (gCons (gBin pIx (gVarB 3) (gC (.int 1))) (gCons (gC (.int 7)) gNil)))) gNil))))) (sRet (gC (.bl false))) sNx)
  (sSeq (sAsg (gB m__law_calendar (gCons (gVar 1) (gCons (gC (.int 8)) gNil))) (tgTup 2 (tgCons (tgName 7) (tgCons (tgName 8) tgNil))))
  (sSeq (sAsg (gBin pAdd (gC (.int 1)) (gB m__law_draw (gCons (gVar 1) (gCons (gB m__law_some (gCons (gVar 1) (gCons (gLst (gCons (gC (.int 4)) (gCons (gC (.int 30)) gNil))) gNil))) gNil)))) (tgName 4))
  (sSeq (sAsg (gLc (iRange (gCons (gVar 7) gNil)) (tgName 9) (gTB (gBin pNotIn (gVarB 9) (gVarB 8))) (gVar 9) [9]) (tgName 5))
  (sSeq (sAsg (gLc (iSeq (gB m__law_lots (gCons (gVar 5) gNil))) (tgName 10) (gTru (gB m__law_is_kept (gCons (gVar 7) (gCons (gBin pAdd (gVarB 8) (gVarB 10)) (gCons (gVar 4) gNil))))) (gVar 10) [10]) (tgName 6))
  (sIf (gNotT (gTru (gB (m__law_is 4) (gCons (gB m_fewest_more (gCons (gTup (gCons (gVar 7) (gCons (gVar 8) gNil))) (gCons (gVar 4) gNil))) (gCons (gTup (gCons (gB pLen (gCons (gBin pIx (gVarB 6) (gC (.int 0))) gNil)) (gCons (gBin pIx (gVarB 6) (gC (.int 0))) gNil))) gNil))))) (sRet (gC (.bl false))) sNx)))))))
theorem b_law_is : b_law = sSeq (sFor (iRange (gCons (gC (.int 6)) gNil)) (tgName 2) lap) (sRet (gC (.bl true))) := rfl
theorem lap_ok {p : PV} {ρ : Ev} {h : HS} (hI : Inv ρ h) : Ok (tgName 2 p ρ >>= lap) (fun o h' => ∃ ρ', (o = .nx ρ' ∨ o = .ct ρ') ∧ Inv ρ' h') h := by
  obtain ⟨s0, s2, s3, s4, s5, s6, s7, s8, s9, s10, rfl, hh⟩ := hI
  rw [e_tname, pure_bind]
  unfold lap
  refine ok_set_seq (fun p h' => ∃ (n : Nat) (A : List Int), p = cal n A ∧ 1 ≤ n ∧ n ≤ 30 ∧ LotOk n A ∧ HandOk h') ?_ ?_
  · simp
    exact (cal_ok hh (by decide) (by decide)).mono fun p h1 ⟨n, A, e, n1, n2, hA, _, hh⟩ => ⟨n, A, e, n1, by omega, hA, hh⟩
  rintro _ h1 ⟨n, A, rfl, n1, n2, hA, hh1⟩
  have t1 : ∀ b : Bool, m__law_is 4 [.bl b, .bl b] = pure (.bl true) := fun b => is_refl 3 _ rfl
  have q1 := sevens n1 n2 hA
  have q2 := lkept (A := A) (run := 7) n1 n2 (by decide)
  rw [e_seq]
  simp only [cal] at q1
  have q2' : m__law_is_kept [.int n, iT A, .int 7] = pure (.bl (kp n A 7)) := q2
  simp [cal, q1, q2', t1]
  refine (cal_ok hh1 (by decide) (by decide)).bind' fun p h2 ⟨k, B, e, k1, k2, hB, hBl, hh2⟩ => ?_
  subst e
  simp [cal]
  refine (some_ok hh2 (by decide) (by decide)).bind' fun p h3 ⟨hp, hh3⟩ => ?_
  obtain ⟨q, rfl, q0, qq⟩ : ∃ q : Int, p = .int q ∧ 0 < q ∧ q ≤ 30 := by
    simp at hp
    rcases hp with rfl | rfl
    · exact ⟨_, rfl, by omega, by omega⟩
    · exact ⟨_, rfl, by omega, by omega⟩
  refine (draw_ok hh3 q0 (by omega)).bind' fun p h4 ⟨r, e, r0, r2, hh4⟩ => ?_
  subst e
  obtain ⟨run, hr⟩ : ∃ run : Nat, 1 + r = run := ⟨(1 + r).toNat, by omega⟩
  have g : -4611686018427387904 ≤ (k : Int) ∧ (k : Int) ≤ 16777216 := by omega
  simp [hr, g]
  rw [free_lc (A := B) (fun i => by simp [iT, v_ninI])]
  have hl := all_lots_ok (free := freeOf k B) (by have := free_len (n := k) (A := B); omega)
  rw [← law_lots_is] at hl
  simp only [iL] at hl
  simp [hl]
  rw [lc_map (c := fun x => kp k (B ++ x) run) (φ := iT) (e := iT) (l := lots (freeOf k B)) (fun x hx => by
    have hxl : x.length ≤ 8 := by
      have := (lots_sub hx).length_le
      have := free_len (n := k) (A := B)
      omega
    refine ⟨rfl, ?_, fun _ => rfl⟩
    have q3 := lkept (A := B ++ x) (run := run) k1 (by omega) (by omega)
    simp only [iT, List.map_append] at q3
    simp [iT]
    rw [guard_pos (by simp; omega)]
    simp [q3])]
  have hf := fewest_ok (n := k) (run := run) (A := B) k1 (by omega) hB hBl (by omega) (by omega)
  simp only [cal] at hf
  have hmem : freeOf k B ∈ (lots (freeOf k B)).filter fun x => kp k (B ++ x) run := List.mem_filter.mpr ⟨lots_all _, full (by omega)⟩
  generalize hL : (lots (freeOf k B)).filter (fun x => kp k (B ++ x) run) = L at hmem
  cases L with
  | nil => cases hmem
  | cons x L =>
    have hfd : (lots (freeOf k B)).find? (fun x => kp k (B ++ x) run) = some x := by rw [← List.head?_filter, hL]; rfl
    rw [hfd] at hf
    have t2 : m__law_is 4 [ans (some x), ans (some x)] = pure (.bl true) := is_refl 3 _ (by
      show (List.all _ _) = true
      simp [plainD, iT])
    simp only [ans] at t2
    have hlen : pLen [iT x] = pure (.int x.length) := by simp [iT]
    simp [hf, ans, hlen, t2]
    exact ⟨_, _, _, _, _, _, _, _, _, _, rfl, hh4⟩
theorem law_true (ns : List Int) (h : ns.length ≤ 63) : ∃ hs', m_law [.scr ns] [] = .ok (.bl true, hs') := by
  obtain ⟨cs, hc, e⟩ := hand_ok (ns := ns)
  have h0 : b0_law (ev0 11 [.scr ns]) = pure (.nx [.fz (.scr ns), .ow (.lst [.lst (cs.map PV.int), .int 0, .int 0, .int (97 + 5 * cs.length), .int 0]), .un, .un, .un, .un, .un, .un, .un, .un, .un]) := by
    unfold b0_law
    show sOwn _ 1 [.fz (.scr ns), .un, .un, .un, .un, .un, .un, .un, .un, .un, .un] = _
    simp [e]
  refine law_run (b := b_law) h0 rfl rfl ?_
  rw [b_law_is]
  refine ok_seq (P := Inv) ?_ ?_
  · simp only [e_sfor, e_range, e_cons, e_C, e_nil, pure_bind]
    rw [guard_pos (by decide), pure_bind]
    refine (ok_for (I := Inv) ⟨_, _, _, _, _, _, _, _, _, _, rfl, hand_start cs _ hc⟩ fun p _ ρ h hI => lap_ok hI).mono fun o h k => k
  · intro ρ h _
    simp
end SLP

end
open PySem PySem.W PyProof.Rows
set_option maxHeartbeats 0 in
theorem PySem.Challenge.cw_siegeworks_k92_whole_fewest_days_more_holds : PySem.Challenge.rw_siegeworks_k92_whole_fewest_days_more.Holds := by
  w_on; o_law; k_head; (case hw => w_witness2)
  k_fill
  refine L2.walk_of (l := PySem.Challenge.rw_siegeworks_k92_whole_fewest_days_more) (n := 63) (k := 7) (x := "script") (CX := fun _ => L2.CX0) (sp := fun w => SL.spN _ SLP.m_law) rfl (by decide) rfl ⟨rfl, by decide, by decide⟩ (fun w h Y => PySem.W.kIn_of Y) ?F (fun _ _ a ns hl hO hS => SL.law_sp hl hO hS (SLP.law_true ns hl)) (fun _ _ _ _ _ h => h)
  case F =>
    intro w mg fa h KX G hmg
    refine' SLP.all_mk KX G hmg ?babs ?ball ?bany ?bbool ?bdict ?bint ?bisinstance ?blen ?blist ?brange ?bsorted ?bstr ?btuple ?bzip ?cMOST_PERIOD ?cMOST_RUN ?cMOST_SMALL ?ais_integer ?lis_integer ?dis_integer ?eis_integer ?ais_within ?lis_within ?dis_within ?eis_within ?ais_sized ?lis_sized ?dis_sized ?eis_sized ?ais_lot ?lis_lot ?dis_lot ?eis_lot ?aall_lots ?lall_lots ?dall_lots ?eall_lots ?ais_truce_calendar ?lis_truce_calendar ?dis_truce_calendar ?eis_truce_calendar ?acheck_calendar ?lcheck_calendar ?dcheck_calendar ?echeck_calendar ?araw_keeps ?lraw_keeps ?draw_keeps ?eraw_keeps ?ais_kept_each ?lis_kept_each ?dis_kept_each ?eis_kept_each ?akept_sevens ?lkept_sevens ?dkept_sevens ?ekept_sevens ?afewest_more ?lfewest_more ?dfewest_more ?efewest_more ?a_law_hand ?l_law_hand ?d_law_hand ?e_law_hand ?a_law_draw ?l_law_draw ?d_law_draw ?e_law_draw ?a_law_some ?l_law_some ?d_law_some ?e_law_some ?a_law_calendar ?l_law_calendar ?d_law_calendar ?e_law_calendar ?a_law_is ?l_law_is ?d_law_is ?e_law_is ?a_law_is_kept ?l_law_is_kept ?d_law_is_kept ?e_law_is_kept ?a_law_lots ?l_law_lots ?d_law_lots ?e_law_lots ?alaw ?llaw ?dlaw ?elaw
    (case babs => k_is)
    (case ball => k_is)
    (case bany => k_is)
    (case bbool => k_is)
    (case bdict => k_is)
    (case bint => k_is)
    (case bisinstance => k_is)
    (case blen => k_is)
    (case blist => k_is)
    (case brange => k_is)
    (case bsorted => k_is)
    (case bstr => k_is)
    (case btuple => k_is)
    (case bzip => k_is)
    (case cMOST_PERIOD => k_is)
    (case cMOST_RUN => k_is)
    (case cMOST_SMALL => k_is)
    (case ais_integer => k_is)
    (case lis_integer => k_is)
    (case dis_integer => k_is)
    (case eis_integer => k_is)
    (case ais_within => k_is)
    (case lis_within => k_is)
    (case dis_within => k_is)
    (case eis_within => k_is)
    (case ais_sized => k_is)
    (case lis_sized => k_is)
    (case dis_sized => k_is)
    (case eis_sized => k_is)
    (case ais_lot => k_is)
    (case lis_lot => k_is)
    (case dis_lot => k_is)
    (case eis_lot => k_is)
    (case aall_lots => k_is)
    (case lall_lots => k_is)
    (case dall_lots => k_is)
    (case eall_lots => k_is)
    (case ais_truce_calendar => k_is)
    (case lis_truce_calendar => k_is)
    (case dis_truce_calendar => k_is)
    (case eis_truce_calendar => k_is)
    (case acheck_calendar => k_is)
    (case lcheck_calendar => k_is)
    (case dcheck_calendar => k_is)
    (case echeck_calendar => k_is)
    (case araw_keeps => k_is)
    (case lraw_keeps => k_is)
    (case draw_keeps => k_is)
    (case eraw_keeps => k_is)
    (case ais_kept_each => k_is)
    (case lis_kept_each => k_is)
    (case dis_kept_each => k_is)
    (case eis_kept_each => k_is)
    (case akept_sevens => k_is)
    (case lkept_sevens => k_is)
    (case dkept_sevens => k_is)
    (case ekept_sevens => k_is)
    (case afewest_more => k_is)
    (case lfewest_more => k_is)
    (case dfewest_more => k_is)
    (case efewest_more => k_is)
    (case a_law_hand => k_is)
    (case l_law_hand => k_is)
    (case d_law_hand => k_is)
    (case e_law_hand => k_is)
    (case a_law_draw => k_is)
    (case l_law_draw => k_is)
    (case d_law_draw => k_is)
    (case e_law_draw => k_is)
    (case a_law_some => k_is)
    (case l_law_some => k_is)
    (case d_law_some => k_is)
    (case e_law_some => k_is)
    (case a_law_calendar => k_is)
    (case l_law_calendar => k_is)
    (case d_law_calendar => k_is)
    (case e_law_calendar => k_is)
    (case a_law_is => k_is)
    (case l_law_is => k_is)
    (case d_law_is => k_is)
    (case e_law_is => k_is)
    (case a_law_is_kept => k_is)
    (case l_law_is_kept => k_is)
    (case d_law_is_kept => k_is)
    (case e_law_is_kept => k_is)
    (case a_law_lots => k_is)
    (case l_law_lots => k_is)
    (case d_law_lots => k_is)
    (case e_law_lots => k_is)
    (case alaw => k_is)
    (case llaw => k_is)
    (case dlaw => k_is)
    (case elaw => k_is)

