import PyProof.Rows.All
import Wide.All
import OpenK.AllK
import Wide.FinOn
import HandS.ForMost
import HandS.IsInst
import HandS.Wide
import HandS.Conv
import HandS.Walk
import HandS.Exc
import HandS.Flow
import HandS.TupAny
import HandS.Zip
import HandS.Lambda
import HandS.EndTab
import HandS.ExcOwn
import HandS.Words
import HandS.WordsExc
import HandS.Ends
import KE.SortData
import HandS.Small
import HandS.Nested
import HandS.ExcIs
import HandS.SetFor
import HandS.TupMul
import HandS.Style
import PyProof.ExcBaseAll.ValueError
import HandS.DictEq
import KE.KEqNest
import PyProof.NeKinds
import HandS.ExcInit
import KE.DataMinMax
import KE.KDflt
import KE.KRevSl
import HandS.DictComp
import PyProof.ReprRoads
import KE.KLam
import KE.KTupSum
import PyProof.ReprLen
import HandS.TryMany
import HandS.Deep
import KE.GoesMore
import KE.KTupTabMore
import HandS.Strs
import KE.KNestM
import PySem.Challenge.RW_siegeworks_k89_whole_kings_of_the_yard_a
set_option Elab.async false
set_option linter.all false
set_option maxRecDepth 100000
set_option maxHeartbeats 4000000
set_option autoImplicit false
section
/-! SL: a layer of plain values over the hand layer -/
namespace SL
open PySem PySem.Spec PyProof.Rows L2
abbrev Fg := PySem.W.Frag
/-- the law's hand -/
structure Ax where
  hd : Option Addr
/-- a lambda's text -/
structure LD where
  qual : Str
  params : Arguments
  body : Expr
  scope : Scope
/-- the tables of code objects, the lambdas' texts, the defs that are handed on by number -/
class Tbs where
  tb : List (Addr × Str)
  ld : Nat → LD
  fa : Nat → Addr
/-- no table -/
def NT (o : HO) : Prop := ∀ ps, o ≠ .tbl ps

def NoD (o : Obj) : Prop := o.dict = none
inductive PV where
  | lam (i : Nat) | fn (i : Nat) | exc (a : Nat) | exd (a d : Nat)
  | non | bl (b : Bool) | int (i : Int) | str (x : Str) | ty (n : String) | hand
  | tup (l : List PV) | lst (l : List PV) | scr (l : List Int)
  | dK (l : List (Key × PV)) | dT (l : List (List Key × PV))
  | ptp (l : List PV)
instance : Inhabited PV := ⟨.non⟩
inductive Er where
  | stuck | exc (c : Str)
abbrev HS := List PV
abbrev M := StateT HS (Except Er)
def stuck {α : Type} : M α := fun _ => .error .stuck
def liftO {α : Type} : Option α → M α
  | some a => pure a
  | none => stuck
theorem M.bind_ok {α β : Type} {x : M α} {f : α → M β} {h : HS} {r : β × HS} (e : (x >>= f) h = .ok r) : ∃ a h1, x h = .ok (a, h1) ∧ f a h1 = .ok r := by
  have e : (Except.bind (x h) fun p => f p.1 p.2) = .ok r := e
  cases q : x h with
  | error z => rw [q] at e; cases e
  | ok p => rw [q] at e; exact ⟨p.1, p.2, rfl, e⟩
theorem M.pure_ok {α : Type} {a : α} {h : HS} {r : α × HS} (e : (pure a : M α) h = .ok r) : r = (a, h) := by
  have e : Except.ok (a, h) = .ok r := e
  cases e; rfl
theorem M.stuck_ok {α : Type} {h : HS} {r : α × HS} (e : (stuck : M α) h = .ok r) : False := by cases e
theorem M.lift_ok {α : Type} {o : Option α} {h : HS} {r : α × HS} (e : (liftO o : M α) h = .ok r) : o = some r.1 ∧ r.2 = h := by
  cases o with
  | none => cases e
  | some a => have := M.pure_ok e; subst this; exact ⟨rfl, rfl⟩

/-! ### values in the heap -/
variable [Tbs]
/-- the lambda's object, no captured names -/
def LamO (f : Addr) (d : LD) (c : Addr) : HO := .ext fun h => ∃ (pm ctv : Value), h.get? f = some (PySem.W.kla_obj "<lambda>" d.qual d.params d.body d.scope [] pm c ctv)
/-- the script: a list of ints that nobody changes -/
def SqS (K : Fg) (F : Addr → Prop) (H : Hp) (a : Addr) (xs : List V) : Prop :=
  (F a ∧ H a = some (.lst xs)) ∨ (∃ o, H a = some (.frz o (.lst xs))) ∨
    ∃ (o : Obj) (its : Array Value) (n : Nat), K.lookup a = some o ∧ o.cls = .type "list" ∧ o.dict = none ∧ o.data = .seq its n ∧ its.size ≤ sizeLine ∧ Vals xs its.toList
theorem SqS.l {K : Fg} {F : Addr → Prop} {H : Hp} {a : Addr} {xs : List V} (h : SqS K F H a xs) : SqL K H a xs := by
  rcases h with h | h | h
  · exact .inl (.inl h.2)
  · exact .inl (.inr h)
  · exact .inr h
section
variable (K : Fg) (ah : Ax) (F : Addr → Prop) (H : Hp)
mutual
inductive Rep : V → PV → Prop
  | non : Rep .non .non
  | bl (b : Bool) : Rep (.bl b) (.bl b)
  | int (i : Int) : Rep (.int i) (.int i)
  | str (x : Str) : Rep (.str x) (.str x)
  | ty (n : String) : Rep (.ty n) (.ty n)
  | hand {a : Addr} : ah.hd = some a → Rep (.ref a) .hand
  | lam {f c : Addr} {i : Nat} : H f = some (LamO f (Tbs.ld i) c) → H c = some (LamX.CodeO c (Tbs.ld i).qual) → Rep (.ref f) (.lam i)
  | fn {i : Nat} : Rep (.ref (Tbs.fa i)) (.fn i)
  | exc {a : Addr} : Rep (.ref a) (.exc a)
  | exd {a dx : Addr} {fs : List (Str × V)} : H dx = some (.xd fs) → Rep (.ref a) (.exd a dx)
  | tup {a : Addr} {vs : List V} {ps : List PV} : H a = some (.tup vs) → vs.length ≤ sizeLine → Reps vs ps → Rep (.ref a) (.tup ps)
  | ptp {a : Addr} {o : Obj} {vs : List V} {ps : List PV} : H a = some (.frz o (.tup vs)) → NoD o → vs.length ≤ sizeLine → Reps vs ps → Rep (.ref a) (.ptp ps)
  | lst {a : Addr} {vs : List V} {ps : List PV} : F a → H a = some (.lst vs) → vs.length ≤ sizeLine → Reps vs ps → Rep (.ref a) (.lst ps)
  | scr {a : Addr} {ns : List Int} : SqS K F H a (ns.map V.int) → ns.length ≤ sizeLine → Rep (.ref a) (.scr ns)
  | dK {a : Addr} {kvs : List (Key × V)} {ps : List (Key × PV)} : F a → H a = some (.dK kvs) → kvs.length ≤ sizeLine → kvs.map (·.1) = ps.map (·.1) → Reps (kvs.map (·.2)) (ps.map (·.2)) → Rep (.ref a) (.dK ps)
  | dT {a : Addr} {kvs : List (List Key × V)} {ps : List (List Key × PV)} : F a → H a = some (.dT kvs) → kvs.length ≤ sizeLine → kvs.map (·.1) = ps.map (·.1) → Reps (kvs.map (·.2)) (ps.map (·.2)) → Rep (.ref a) (.dT ps)
inductive Reps : List V → List PV → Prop
  | nil : Reps [] []
  | cons {v : V} {p : PV} {vs : List V} {ps : List PV} : Rep v p → Reps vs ps → Reps (v :: vs) (p :: ps)
end
end

/-- what is frozen, and all tuples, stand -/
structure Kp (K : Fg) (F : Addr → Prop) (H : Hp) (F' : Addr → Prop) (H' : Hp) : Prop where
  mono : ∀ a, F a → F' a
  keep : ∀ a o, F a → H a = some o → H' a = some o
  tup : ∀ a xs, H a = some (.tup xs) → H' a = some (.tup xs)
  frz : ∀ a o u, H a = some (.frz o u) → H' a = some (.frz o u)
  ext : ∀ a u, H a = some (.ext u) → H' a = some (.ext u)
  xd : ∀ a u, H a = some (.xd u) → H' a = some (.xd u)
section
variable {K : Fg} {ah : Ax} {F F' F'' : Addr → Prop} {H H' H'' : Hp}
theorem Kp.refl : Kp K F H F H := ⟨fun _ h => h, fun _ _ _ h => h, fun _ _ h => h, fun _ _ _ h => h, fun _ _ h => h, fun _ _ h => h⟩
theorem Kp.trans (a : Kp K F H F' H') (b : Kp K F' H' F'' H'') : Kp K F H F'' H'' :=
  ⟨fun x h => b.mono x (a.mono x h), fun x o f h => b.keep x o (a.mono x f) (a.keep x o f h), fun x xs h => b.tup x xs (a.tup x xs h), fun x o u h => b.frz x o u (a.frz x o u h), fun x u h => b.ext x u (a.ext x u h), fun x u h => b.xd x u (a.xd x u h)⟩
theorem Kp.scr (k : Kp K F H F' H') {a : Addr} {xs : List V} (h : SqS K F H a xs) : SqS K F' H' a xs := by
  rcases h with h | ⟨o, h⟩ | h
  · exact .inl ⟨k.mono _ h.1, k.keep _ _ h.1 h.2⟩
  · exact .inr (.inl ⟨o, k.frz _ _ _ h⟩)
  · exact .inr (.inr h)
mutual
theorem Rep.mono (k : Kp K F H F' H') : ∀ {v : V} {p : PV}, Rep K ah F H v p → Rep K ah F' H' v p
  | _, _, .non => .non
  | _, _, .bl b => .bl b
  | _, _, .int i => .int i
  | _, _, .str x => .str x
  | _, _, .ty n => .ty n
  | _, _, .hand e => .hand e
  | _, _, .lam h c => .lam (k.ext _ _ h) (k.ext _ _ c)
  | _, _, .fn => .fn
  | _, _, .exc => .exc
  | _, _, .exd h => .exd (k.xd _ _ h)
  | _, _, .tup h z r => .tup (k.tup _ _ h) z (Reps.mono k r)
  | _, _, .ptp h d z r => .ptp (k.frz _ _ _ h) d z (Reps.mono k r)
  | _, _, .lst f h z r => .lst (k.mono _ f) (k.keep _ _ f h) z (Reps.mono k r)
  | _, _, .scr h z => .scr (k.scr h) z
  | _, _, .dK f h z e r => .dK (k.mono _ f) (k.keep _ _ f h) z e (Reps.mono k r)
  | _, _, .dT f h z e r => .dT (k.mono _ f) (k.keep _ _ f h) z e (Reps.mono k r)
theorem Reps.mono (k : Kp K F H F' H') : ∀ {vs : List V} {ps : List PV}, Reps K ah F H vs ps → Reps K ah F' H' vs ps
  | _, _, .nil => .nil
  | _, _, .cons r t => .cons (Rep.mono k r) (Reps.mono k t)
end
theorem Reps.length : ∀ {vs : List V} {ps : List PV}, Reps K ah F H vs ps → vs.length = ps.length
  | _, _, .nil => rfl
  | _, _, .cons _ t => congrArg (· + 1) (Reps.length t)
theorem Reps.get : ∀ {vs : List V} {ps : List PV} {i : Nat} {p : PV}, Reps K ah F H vs ps → ps[i]? = some p → ∃ v, vs[i]? = some v ∧ Rep K ah F H v p
  | _, _, _, _, .nil, e => by simp at e
  | _, _, 0, _, .cons r _, e => by simp at e; subst e; exact ⟨_, rfl, r⟩
  | _, _, i + 1, p, .cons _ t, e => by
    obtain ⟨v, h1, h2⟩ := Reps.get (i := i) (p := p) t (by simpa using e)
    exact ⟨v, by simpa using h1, h2⟩
theorem Reps.getV : ∀ {vs : List V} {ps : List PV} {i : Nat} {v : V}, Reps K ah F H vs ps → vs[i]? = some v → ∃ p, ps[i]? = some p ∧ Rep K ah F H v p
  | _, _, _, _, .nil, e => by simp at e
  | _, _, 0, _, .cons r _, e => by simp at e; subst e; exact ⟨_, rfl, r⟩
  | _, _, i + 1, v, .cons _ t, e => by
    obtain ⟨p, h1, h2⟩ := Reps.getV (i := i) (v := v) t (by simpa using e)
    exact ⟨p, by simpa using h1, h2⟩
theorem Reps.append : ∀ {vs ws : List V} {ps qs : List PV}, Reps K ah F H vs ps → Reps K ah F H ws qs → Reps K ah F H (vs ++ ws) (ps ++ qs)
  | _, _, _, _, .nil, s => s
  | _, _, _, _, .cons r t, s => .cons r (Reps.append t s)
theorem Reps.take : ∀ {vs : List V} {ps : List PV} (n : Nat), Reps K ah F H vs ps → Reps K ah F H (vs.take n) (ps.take n)
  | _, _, 0, _ => .nil
  | _, _, _ + 1, .nil => .nil
  | _, _, n + 1, .cons r t => .cons r (Reps.take n t)
theorem Reps.drop : ∀ {vs : List V} {ps : List PV} (n : Nat), Reps K ah F H vs ps → Reps K ah F H (vs.drop n) (ps.drop n)
  | _, _, 0, r => r
  | _, _, _ + 1, .nil => .nil
  | _, _, n + 1, .cons _ t => Reps.drop n t
theorem Reps.set {x : V} {q : PV} (r : Rep K ah F H x q) : ∀ {vs : List V} {ps : List PV} (i : Nat), Reps K ah F H vs ps → Reps K ah F H (vs.set i x) (ps.set i q)
  | _, _, _, .nil => .nil
  | _, _, 0, .cons _ t => .cons r t
  | _, _, i + 1, .cons z t => .cons z (Reps.set r i t)
theorem Reps.ints : ∀ (ns : List Int), Reps K ah F H (ns.map V.int) (ns.map PV.int)
  | [] => .nil
  | n :: r => .cons (.int n) (Reps.ints r)
theorem Reps.dropLast {vs : List V} {ps : List PV} (r : Reps K ah F H vs ps) : Reps K ah F H vs.dropLast ps.dropLast := by
  rw [List.dropLast_eq_take, List.dropLast_eq_take, r.length]
  exact r.take _
theorem Reps.erase : ∀ {vs : List V} {ps : List PV} (i : Nat), Reps K ah F H vs ps → Reps K ah F H (vs.eraseIdx i) (ps.eraseIdx i)
  | _, _, _, .nil => .nil
  | _, _, 0, .cons _ t => t
  | _, _, i + 1, .cons z t => .cons z (Reps.erase i t)
theorem Reps.reverse {vs : List V} {ps : List PV} (r : Reps K ah F H vs ps) : Reps K ah F H vs.reverse ps.reverse := by
  induction r using Reps.rec (motive_1 := fun _ _ _ => True) with
  | nil => exact .nil
  | cons r t _ ih => rw [List.reverse_cons, List.reverse_cons]; exact Reps.append ih (.cons r .nil)
  | _ => trivial
end

/-! ### the law's hand -/
structure GI (K : Fg) (ah : Ax) (F : Addr → Prop) (H : Hp) (hs : HS) : Prop where
  fin : ∀ a, F a → H a ≠ none
  at_ : ∀ a, ah.hd = some a → ¬ F a ∧ ∃ vs, H a = some (.lst vs) ∧ vs.length ≤ sizeLine ∧ Reps K ah F H vs hs
  tabs : LamX.Tabs Tbs.tb H
  nt : ∀ a ps, F a → H a ≠ some (.tbl ps)
/-- an expression's step: the frozen grows by new things alone, all but the hand stands -/
structure Ext (K : Fg) (ah : Ax) (F : Addr → Prop) (H : Hp) (F' : Addr → Prop) (H' : Hp) : Prop where
  mono : ∀ a, F a → F' a
  new : ∀ a, F' a → F a ∨ H a = none
  keep : ∀ a o, ah.hd ≠ some a → NT o → H a = some o → H' a = some o
  tbl : ∀ a ps, H a = some (.tbl ps) → ∃ more, H' a = some (.tbl (ps ++ more))
section
variable {K : Fg} {ah : Ax} {F F' F'' : Addr → Prop} {H H' H'' : Hp} {hs : HS}
theorem GI.kp (g : GI K ah F H hs) (e : Ext K ah F H F' H') : Kp K F H F' H' := by
  refine ⟨e.mono, fun a o f h => e.keep a o (fun z => (g.at_ a z).1 f) (fun ps z => g.nt a ps f (z ▸ h)) h, fun a xs h => e.keep a _ (fun z => by
    obtain ⟨_, vs, r, _⟩ := g.at_ a z
    rw [h] at r; cases r) (fun _ z => by cases z) h, fun a o u h => e.keep a _ (fun z => by
    obtain ⟨_, vs, r, _⟩ := g.at_ a z
    rw [h] at r; cases r) (fun _ z => by cases z) h, fun a u h => e.keep a _ (fun z => by
    obtain ⟨_, vs, r, _⟩ := g.at_ a z
    rw [h] at r; cases r) (fun _ z => by cases z) h, fun a u h => e.keep a _ (fun z => by
    obtain ⟨_, vs, r, _⟩ := g.at_ a z
    rw [h] at r; cases r) (fun _ z => by cases z) h⟩
theorem tbl_same {ps : Array Value} {H : Hp} {a : Addr} (h : H a = some (.tbl ps)) : ∃ more, H a = some (.tbl (ps ++ more)) := ⟨#[], by simpa using h⟩
theorem Ext.refl : Ext K ah F H F H := ⟨fun _ h => h, fun _ h => .inl h, fun _ _ _ _ h => h, fun _ _ h => tbl_same h⟩
theorem Ext.free (g : GI K ah F H hs) (e : Ext K ah F H F' H') {a : Addr} (h : H' a = none) (n : ah.hd ≠ some a) : H a = none := by
  cases q : H a with
  | none => rfl
  | some o =>
    by_cases t : NT o
    · rw [e.keep a o n t q] at h; cases h
    · obtain ⟨ps, rfl⟩ : ∃ ps, o = .tbl ps := Classical.byContradiction fun z => t fun ps e => z ⟨ps, e⟩
      obtain ⟨more, h2⟩ := e.tbl a ps q
      rw [h2] at h; cases h
theorem Ext.trans {hs1 : HS} (g : GI K ah F H hs) (g' : GI K ah F' H' hs1) (a : Ext K ah F H F' H') (b : Ext K ah F' H' F'' H'') : Ext K ah F H F'' H'' := by
  refine ⟨fun x h => b.mono x (a.mono x h), fun x h => ?_, fun x o n t h => b.keep x o n t (a.keep x o n t h), fun x ps h => ?tb⟩
  case tb =>
    obtain ⟨m1, h1⟩ := a.tbl x ps h
    obtain ⟨m2, h2⟩ := b.tbl x _ h1
    exact ⟨m1 ++ m2, by rw [h2, Array.append_assoc]⟩
  rcases b.new x h with h | h
  · exact a.new x h
  · refine .inr (a.free g h fun z => ?_)
    obtain ⟨_, vs, r, _⟩ := g'.at_ x z
    rw [h] at r; cases r
/-- a new object laid, not frozen -/
theorem Ext.laid {p : Addr} {o : HO} (n : H p = none) : Ext K ah F H F (upd H p o) :=
  ⟨fun _ h => h, fun _ h => .inl h, fun a u _ _ h => by rw [upd_ne (ne_of_none h n)]; exact h, fun a ps h => tbl_same (by rw [upd_ne (ne_of_none h n)]; exact h)⟩
/-- .. and frozen -/
theorem Ext.laidF {p : Addr} {o : HO} (n : H p = none) : Ext K ah F H (fun a => F a ∨ a = p) (upd H p o) :=
  ⟨fun _ h => .inl h, fun a h => h.elim .inl (fun e => .inr (e ▸ n)), fun a u _ _ h => by rw [upd_ne (ne_of_none h n)]; exact h, fun a ps h => tbl_same (by rw [upd_ne (ne_of_none h n)]; exact h)⟩
theorem GI.kpL (g : GI K ah F H hs) {p : Addr} {o : HO} (n : H p = none) : Kp K F H F (upd H p o) := g.kp (Ext.laid n)
theorem GI.kpF (g : GI K ah F H hs) {p : Addr} {o : HO} (n : H p = none) : Kp K F H (fun a => F a ∨ a = p) (upd H p o) := g.kp (Ext.laidF n)
theorem GI.ne (g : GI K ah F H hs) {p : Addr} (n : H p = none) : ah.hd ≠ some p := fun z => by
  obtain ⟨_, vs, r, _⟩ := g.at_ p z
  rw [n] at r; cases r
theorem GI.nf (g : GI K ah F H hs) {p : Addr} (n : H p = none) : ¬ F p := fun f => g.fin p f n
/-- an own thing frozen -/
theorem GI.frz (g : GI K ah F H hs) {a : Addr} {o : HO} (h : H a = some o ∧ NT o) (n : ah.hd ≠ some a) : GI K ah (fun b => F b ∨ b = a) H hs := by
  refine ⟨fun b f z => ?_, fun b e => ?_, g.tabs, fun b ps f z => ?nt⟩
  case nt =>
    rcases f with f | f
    · exact g.nt b ps f z
    · rw [f, h.1] at z; exact h.2 ps (Option.some.inj z)
  · rcases f with f | f
    · exact g.fin b f z
    · rw [f, h.1] at z; cases z
  · obtain ⟨f, vs, h, z, r⟩ := g.at_ b e
    exact ⟨fun q => q.elim f fun q => n (q ▸ e), vs, h, z, r.mono ⟨fun _ h => .inl h, fun _ _ _ h => h, fun _ _ h => h, fun _ _ _ h => h, fun _ _ h => h, fun _ _ h => h⟩⟩
theorem GI.laid (g : GI K ah F H hs) {p : Addr} {o : HO} (n : H p = none) : GI K ah F (upd H p o) hs := by
  refine ⟨fun a f z => ?_, fun a e => ?_, g.tabs.ext fun b u e => by rw [upd_ne (ne_of_none e n)]; exact e, fun a ps f z => ?nt⟩
  case nt =>
    by_cases q : a = p
    · exact g.nf n (q ▸ f)
    · rw [upd_ne q] at z; exact g.nt a ps f z
  · by_cases q : a = p
    · rw [q, upd_same] at z; cases z
    · rw [upd_ne q] at z; exact g.fin a f z
  · obtain ⟨f, vs, h, z, r⟩ := g.at_ a e
    exact ⟨f, vs, by rw [upd_ne (ne_of_none h n)]; exact h, z, r.mono (g.kpL n)⟩
end

/-! ### slots -/
inductive Slot where
  | un | fz (p : PV) | ow (p : PV)
abbrev Ev := List Slot
section
variable (K : Fg) (ah : Ax) (F : Addr → Prop) (H : Hp)
/-- a mutable thing of this frame's own -/
inductive Own (a : Addr) : PV → Prop
  | lst {vs : List V} {ps : List PV} : H a = some (.lst vs) → vs.length ≤ sizeLine → Reps K ah F H vs ps → Own a (.lst ps)
  | dK {kvs : List (Key × V)} {ps : List (Key × PV)} : H a = some (.dK kvs) → kvs.length ≤ sizeLine → kvs.map (·.1) = ps.map (·.1) → Reps K ah F H (kvs.map (·.2)) (ps.map (·.2)) → Own a (.dK ps)
  | dT {kvs : List (List Key × V)} {ps : List (List Key × PV)} : H a = some (.dT kvs) → kvs.length ≤ sizeLine → kvs.map (·.1) = ps.map (·.1) → Reps K ah F H (kvs.map (·.2)) (ps.map (·.2)) → Own a (.dT ps)
inductive SlotRep (N : Addr → Prop) : Option (Option V) → Slot → Prop
  | un (v : Option (Option V)) : SlotRep N v .un
  | fz {v : V} {p : PV} : Rep K ah F H v p → SlotRep N (some (some v)) (.fz p)
  | ow {a : Addr} {p : PV} : ¬ F a → ah.hd ≠ some a → N a → Own K ah F H a p → SlotRep N (some (some (.ref a))) (.ow p)
/-- N: what an own thing's address is to be (new since the entry) -/
structure ER (N : Addr → Prop) (σ : L2.St) (ρ : Ev) : Prop where
  at_ : ∀ (i : Nat) (s : Slot), ρ[i]? = some s → SlotRep K ah F H N σ[i]? s
  apart : ∀ (i j : Nat) (p q : PV), i ≠ j → ρ[i]? = some (.ow p) → ρ[j]? = some (.ow q) → σ[i]? ≠ σ[j]?
  len : ρ.length = σ.length
end
section
variable {K : Fg} {ah : Ax} {F F' F'' : Addr → Prop} {H H' H'' : Hp} {hs : HS} {N : Addr → Prop} {σ : L2.St} {ρ : Ev} {a : Addr} {p : PV}
theorem Own.there (o : Own K ah F H a p) : ∃ u, H a = some u ∧ NT u := by cases o <;> exact ⟨_, ⟨by assumption, fun _ z => by cases z⟩⟩
theorem Own.ext (g : GI K ah F H hs) (e : Ext K ah F H F' H') (n : ah.hd ≠ some a) (o : Own K ah F H a p) : Own K ah F' H' a p := by
  cases o with
  | lst h z r => exact .lst (e.keep _ _ n (fun _ z => by cases z) h) z (r.mono (g.kp e))
  | dK h z k r => exact .dK (e.keep _ _ n (fun _ z => by cases z) h) z k (r.mono (g.kp e))
  | dT h z k r => exact .dT (e.keep _ _ n (fun _ z => by cases z) h) z k (r.mono (g.kp e))
theorem SlotRep.ext {v : Option (Option V)} {s : Slot} (g : GI K ah F H hs) (e : Ext K ah F H F' H') (r : SlotRep K ah F H N v s) : SlotRep K ah F' H' N v s := by
  cases r with
  | un => exact .un _
  | fz r => exact .fz (r.mono (g.kp e))
  | ow f n k o =>
    refine .ow (fun z => ?_) n k (o.ext g e n)
    rcases e.new _ z with z | z
    · exact f z
    · obtain ⟨u, h, _⟩ := o.there
      rw [z] at h; cases h
theorem ER.ext (g : GI K ah F H hs) (e : Ext K ah F H F' H') (r : ER K ah F H N σ ρ) : ER K ah F' H' N σ ρ := ⟨fun i s h => (r.at_ i s h).ext g e, r.apart, r.len⟩
theorem ER.get {i : Nat} {p : PV} (r : ER K ah F H N σ ρ) (h : ρ[i]? = some (.fz p)) : ∃ v, σ[i]? = some (some v) ∧ Rep K ah F H v p := by
  generalize e : σ[i]? = x
  have q := r.at_ i _ h
  rw [e] at q
  cases q with
  | fz r => exact ⟨_, rfl, r⟩
theorem ER.own {i : Nat} {p : PV} (r : ER K ah F H N σ ρ) (h : ρ[i]? = some (.ow p)) : ∃ a, σ[i]? = some (some (.ref a)) ∧ ¬ F a ∧ ah.hd ≠ some a ∧ N a ∧ Own K ah F H a p := by
  generalize e : σ[i]? = x
  have q := r.at_ i _ h
  rw [e] at q
  cases q with
  | ow f n k o => exact ⟨_, rfl, f, n, k, o⟩
theorem ER.set {i : Nat} {v : V} {s : Slot} (r : ER K ah F H N σ ρ) (h : SlotRep K ah F H N (some (some v)) s) (d : ∀ q, s = .ow q → ∀ j t, j ≠ i → ρ[j]? = some (.ow t) → σ[j]? ≠ some (some v)) : ER K ah F H N (σ.set i (some v)) (ρ.set i s) := by
  by_cases hi : i < σ.length
  · have hi' : i < ρ.length := by rw [r.len]; exact hi
    refine ⟨fun j t e => ?_, fun j k p q ne e1 e2 => ?_, by rw [List.length_set, List.length_set]; exact r.len⟩
    · by_cases hj : i = j
      · subst hj
        rw [List.getElem?_set_self hi'] at e
        rw [List.getElem?_set_self hi]
        cases e; exact h
      · rw [List.getElem?_set_ne hj] at e ⊢
        exact r.at_ j t e
    · by_cases hj : i = j
      · subst hj
        rw [List.getElem?_set_self hi'] at e1
        rw [List.getElem?_set_ne ne] at e2
        rw [List.getElem?_set_self hi, List.getElem?_set_ne ne]
        cases e1
        exact (d _ rfl k q (Ne.symm ne) e2).symm
      · rw [List.getElem?_set_ne hj] at e1
        rw [List.getElem?_set_ne hj]
        by_cases hk : i = k
        · subst hk
          rw [List.getElem?_set_self hi'] at e2
          rw [List.getElem?_set_self hi]
          cases e2
          exact d _ rfl j p ne e1
        · rw [List.getElem?_set_ne hk] at e2
          rw [List.getElem?_set_ne hk]
          exact r.apart j k p q ne e1 e2
  · have e1 : σ.set i (some v) = σ := List.set_eq_of_length_le (by omega)
    have e2 : ρ.set i s = ρ := List.set_eq_of_length_le (by rw [r.len]; omega)
    rw [e1, e2]; exact r
theorem ER.setF {i : Nat} {v : V} {p : PV} (r : ER K ah F H N σ ρ) (h : Rep K ah F H v p) : ER K ah F H N (σ.set i (some v)) (ρ.set i (.fz p)) := r.set (.fz h) fun _ z => by cases z
theorem ER.unset {i : Nat} (r : ER K ah F H N σ ρ) : ER K ah F H N (σ.set i none) (ρ.set i .un) := by
  by_cases hi : i < σ.length
  · have hi' : i < ρ.length := by rw [r.len]; exact hi
    refine ⟨fun j t e => ?_, fun j k p q ne e1 e2 => ?_, by rw [List.length_set, List.length_set]; exact r.len⟩
    · by_cases hj : i = j
      · subst hj
        rw [List.getElem?_set_self hi'] at e
        cases e; exact .un _
      · rw [List.getElem?_set_ne hj] at e ⊢
        exact r.at_ j t e
    · by_cases hj : i = j
      · subst hj
        rw [List.getElem?_set_self hi'] at e1
        cases e1
      · by_cases hk : i = k
        · subst hk
          rw [List.getElem?_set_self hi'] at e2
          cases e2
        · rw [List.getElem?_set_ne hj] at e1
          rw [List.getElem?_set_ne hk] at e2
          rw [List.getElem?_set_ne hj, List.getElem?_set_ne hk]
          exact r.apart j k p q ne e1 e2
  · have e1 : σ.set i none = σ := List.set_eq_of_length_le (by omega)
    have e2 : ρ.set i .un = ρ := List.set_eq_of_length_le (by rw [r.len]; omega)
    rw [e1, e2]; exact r
/-- the frozen things, as an expression leaves them: an own thing frozen -/
theorem Ext.frz (n : H a = none) : Ext K ah F H (fun b => F b ∨ b = a) H := ⟨fun _ h => .inl h, fun b h => h.elim .inl fun e => .inr (e ▸ n), fun _ _ _ _ h => h, fun _ _ h => tbl_same h⟩
def wipeE (ρ : Ev) : List Nat → Ev
  | [] => ρ
  | v :: vs => (wipeE ρ vs).set v .un
theorem ER.wipe (r : ER K ah F H N σ ρ) : ∀ vs : List Nat, ER K ah F H N (L2.wipe σ vs) (wipeE ρ vs)
  | [] => r
  | v :: vs => (ER.wipe r vs).unset
theorem Kp.frzn : Kp K F H (fun b => F b ∨ b = a) H := ⟨fun _ h => .inl h, fun _ _ _ h => h, fun _ _ h => h, fun _ _ _ h => h, fun _ _ h => h, fun _ _ h => h⟩
/-- an own thing that is frozen now -/
theorem Own.frzn (o : Own K ah F H a p) : Rep K ah (fun b => F b ∨ b = a) H (.ref a) p := by
  cases o with
  | lst h z r => exact .lst (.inr rfl) h z (r.mono .frzn)
  | dK h z k r => exact .dK (.inr rfl) h z k (r.mono .frzn)
  | dT h z k r => exact .dT (.inr rfl) h z k (r.mono .frzn)
theorem Rep.own {v : V} (f : F a) (o : Own K ah F H a p) : Rep K ah F H (.ref a) p := by
  cases o with
  | lst h z r => exact .lst f h z r
  | dK h z k r => exact .dK f h z k r
  | dT h z k r => exact .dT f h z k r
end
end SL

end
section
namespace SL
open PySem PySem.Spec PyProof.Rows L2
variable [Tbs]
/-! ### judgements -/
abbrev EM := Ev → M PV
/-- what an own thing's address is to be: new since the entry -/
def tS (K : Fg) (g : EM) : TE := fun σ H Q => ∃ ah F N ρ hs p hs', GI K ah F H hs ∧ ER K ah F H N σ ρ ∧ g ρ hs = .ok (p, hs') ∧
  ∀ F' H' v, Ext K ah F H F' H' → GI K ah F' H' hs' → Rep K ah F' H' v p → Q v H'
/-- read where it stands, an own thing not frozen -/
def RepB (K : Fg) (ah : Ax) (F : Addr → Prop) (H : Hp) (σ : L2.St) (ρ : Ev) (v : V) (p : PV) : Prop := Rep K ah F H v p ∨ ∃ i : Nat, ρ[i]? = some (.ow p) ∧ σ[i]? = some (some v)
def tSB (K : Fg) (g : EM) : TE := fun σ H Q => ∃ ah F N ρ hs p hs', GI K ah F H hs ∧ ER K ah F H N σ ρ ∧ g ρ hs = .ok (p, hs') ∧
  ∀ F' H' v, Ext K ah F H F' H' → GI K ah F' H' hs' → RepB K ah F' H' σ ρ v p → Q v H'
/-- a new thing, not frozen -/
def tSF (K : Fg) (g : EM) : TE := fun σ H Q => ∃ ah F N ρ hs p hs', GI K ah F H hs ∧ ER K ah F H N σ ρ ∧ g ρ hs = .ok (p, hs') ∧
  ∀ F' H' a, Ext K ah F H F' H' → GI K ah F' H' hs' → H a = none → ¬ F' a → Own K ah F' H' a p → Q (.ref a) H'
def tST (K : Fg) (g : Ev → M Bool) : TT := fun σ H Q => ∃ ah F N ρ hs p hs', GI K ah F H hs ∧ ER K ah F H N σ ρ ∧ g ρ hs = .ok (p, hs') ∧
  ∀ F' H', Ext K ah F H F' H' → GI K ah F' H' hs' → Q p H'
def tSA (K : Fg) (g : Ev → M (List PV)) : TA := fun σ H Q => ∃ ah F N ρ hs p hs', GI K ah F H hs ∧ ER K ah F H N σ ρ ∧ g ρ hs = .ok (p, hs') ∧
  ∀ F' H' v, Ext K ah F H F' H' → GI K ah F' H' hs' → Reps K ah F' H' v p → Q v H'
/-- arguments read where they stand -/
inductive RepsB (K : Fg) (ah : Ax) (F : Addr → Prop) (H : Hp) (σ : L2.St) (ρ : Ev) : List V → List PV → Prop
  | nil : RepsB K ah F H σ ρ [] []
  | cons {v : V} {p : PV} {vs : List V} {ps : List PV} : RepB K ah F H σ ρ v p → RepsB K ah F H σ ρ vs ps → RepsB K ah F H σ ρ (v :: vs) (p :: ps)
def tSAB (K : Fg) (g : Ev → M (List PV)) : TA := fun σ H Q => ∃ ah F N ρ hs p hs', GI K ah F H hs ∧ ER K ah F H N σ ρ ∧ g ρ hs = .ok (p, hs') ∧
  ∀ F' H' v, Ext K ah F H F' H' → GI K ah F' H' hs' → RepsB K ah F' H' σ ρ v p → Q v H'
abbrev SE (X : Cx) (e : Expr) (g : EM) : Prop := PE X e (tS X.K g)
abbrev SB (X : Cx) (e : Expr) (g : EM) : Prop := PE X e (tSB X.K g)
abbrev SF (X : Cx) (e : Expr) (g : EM) : Prop := PE X e (tSF X.K g)
abbrev ST (X : Cx) (e : Expr) (g : Ev → M Bool) : Prop := PT X e (tST X.K g)
abbrev SA (X : Cx) (es : List Expr) (g : Ev → M (List PV)) : Prop := PA X es (tSA X.K g)
abbrev SAB (X : Cx) (es : List Expr) (g : Ev → M (List PV)) : Prop := PA X es (tSAB X.K g)

theorem PE.wk {X : Cx} {e : Expr} {t u : TE} (h : PE X e t) (w : ∀ σ H Q, u σ H Q → t σ H Q) : PE X e u := ⟨fun pins s σ H Q I q => h.run pins s σ H Q I (w σ H Q q)⟩
theorem PT.wk {X : Cx} {e : Expr} {t u : TT} (h : PT X e t) (w : ∀ σ H Q, u σ H Q → t σ H Q) : PT X e u := ⟨fun pins s σ H Q I q => h.run pins s σ H Q I (w σ H Q q)⟩
theorem PA.wk {X : Cx} {e : List Expr} {t u : TA} (h : PA X e t) (w : ∀ σ H Q, u σ H Q → t σ H Q) : PA X e u := ⟨fun pos pins s σ H Q I q => h.run pos pins s σ H Q I (w σ H Q q)⟩

/-- the content of a thing that is read -/
inductive Con (K : Fg) (ah : Ax) (F : Addr → Prop) (H : Hp) : V → PV → Prop
  | rep {v : V} {p : PV} : Rep K ah F H v p → Con K ah F H v p
  | own {a : Addr} {p : PV} : Own K ah F H a p → Con K ah F H (.ref a) p
section
variable {K : Fg} {ah : Ax} {F F' F'' : Addr → Prop} {H H' H'' : Hp} {hs : HS} {N : Addr → Prop} {σ : L2.St} {ρ : Ev} {a : Addr} {p : PV} {v : V} {vs : List V} {ps : List PV}
theorem RepB.con (E : ER K ah F H N σ ρ) (r : RepB K ah F H σ ρ v p) : Con K ah F H v p := by
  rcases r with r | ⟨i, h1, h2⟩
  · exact .rep r
  · obtain ⟨a, e, _, _, _, o⟩ := E.own h1
    rw [h2] at e; cases e
    exact .own o
theorem RepB.ext (g : GI K ah F H hs) (e : Ext K ah F H F' H') (r : RepB K ah F H σ ρ v p) : RepB K ah F' H' σ ρ v p := r.imp (Rep.mono (g.kp e)) id
theorem RepsB.ext (g : GI K ah F H hs) (e : Ext K ah F H F' H') (r : RepsB K ah F H σ ρ vs ps) : RepsB K ah F' H' σ ρ vs ps := by
  induction r with
  | nil => exact .nil
  | cons r _ ih => exact .cons (r.ext g e) ih
theorem Reps.b (r : Reps K ah F H vs ps) : RepsB K ah F H σ ρ vs ps := by
  induction r using Reps.rec (motive_1 := fun _ _ _ => True) with
  | nil => exact .nil
  | cons r t _ ih => exact .cons (.inl r) ih
  | _ => trivial
theorem Con.tup (c : Con K ah F H v (.tup ps)) : ∃ a vs, v = .ref a ∧ H a = some (.tup vs) ∧ vs.length ≤ sizeLine ∧ Reps K ah F H vs ps := by
  cases c with
  | rep r => cases r with | tup h z r => exact ⟨_, _, rfl, h, z, r⟩
  | own o => cases o
theorem Con.ptp (c : Con K ah F H v (.ptp ps)) : ∃ a o vs, v = .ref a ∧ H a = some (.frz o (.tup vs)) ∧ NoD o ∧ vs.length ≤ sizeLine ∧ Reps K ah F H vs ps := by
  cases c with
  | rep r => cases r with | ptp h d z r => exact ⟨_, _, _, rfl, h, d, z, r⟩
  | own o => cases o
theorem sqt_ptp {a : Addr} {o : Obj} {vs : List V} (h : H a = some (.frz o (.tup vs))) : SqT K H a vs := .inl (.inr ⟨o, h⟩)
theorem Con.lst (c : Con K ah F H v (.lst ps)) : ∃ a vs, v = .ref a ∧ H a = some (.lst vs) ∧ vs.length ≤ sizeLine ∧ Reps K ah F H vs ps := by
  cases c with
  | rep r => cases r with | lst _ h z r => exact ⟨_, _, rfl, h, z, r⟩
  | own o => cases o with | lst h z r => exact ⟨_, _, rfl, h, z, r⟩
theorem Con.scr {ns : List Int} (c : Con K ah F H v (.scr ns)) : ∃ a, v = .ref a ∧ SqL K H a (ns.map V.int) := by
  cases c with
  | rep r => cases r with | scr h z => exact ⟨_, rfl, h.l⟩
  | own o => cases o
theorem Con.hand (g : GI K ah F H hs) (c : Con K ah F H v .hand) : ∃ a vs, v = .ref a ∧ ah.hd = some a ∧ H a = some (.lst vs) ∧ vs.length ≤ sizeLine ∧ Reps K ah F H vs hs := by
  cases c with
  | rep r =>
    cases r with
    | hand e =>
      obtain ⟨_, vs, h, z, r⟩ := g.at_ _ e
      exact ⟨_, vs, rfl, e, h, z, r⟩
  | own o => cases o
theorem Con.int {i : Int} (c : Con K ah F H v (.int i)) : v = .int i := by
  cases c with
  | rep r => cases r; rfl
  | own o => cases o
theorem Con.str {i : Str} (c : Con K ah F H v (.str i)) : v = .str i := by
  cases c with
  | rep r => cases r; rfl
  | own o => cases o
theorem Con.bl {i : Bool} (c : Con K ah F H v (.bl i)) : v = .bl i := by
  cases c with
  | rep r => cases r; rfl
  | own o => cases o
theorem Con.non (c : Con K ah F H v .non) : v = .non := by
  cases c with
  | rep r => cases r; rfl
  | own o => cases o
/-- read as a list or a tuple -/
theorem Con.seq (c : Con K ah F H v p) : (∀ ps, p = .tup ps ∨ p = .lst ps → ∃ a vs, v = .ref a ∧ (SqL K H a vs ∨ SqT K H a vs) ∧ vs.length ≤ sizeLine ∧ Reps K ah F H vs ps) := by
  intro ps e
  rcases e with rfl | rfl
  · obtain ⟨a, vs, e, h, z, r⟩ := c.tup
    exact ⟨a, vs, e, .inr (.of h), z, r⟩
  · obtain ⟨a, vs, e, h, z, r⟩ := c.lst
    exact ⟨a, vs, e, .inl (.of h), z, r⟩
end

section
variable {X : Cx} {e a b c : Expr} {es : List Expr} {pos : Pos} {g ga gb gc : EM}
theorem SE.sb (h : SE X e g) : SB X e g := PE.wk h fun σ H Q ⟨ah, F, N, ρ, hs, p, hs', G, E, q, k⟩ => ⟨ah, F, N, ρ, hs, p, hs', G, E, q, fun F' H' v x y z => k F' H' v x y (.inl z)⟩
theorem SF.se (h : SF X e g) : SE X e g := PE.wk h fun σ H Q ⟨ah, F, N, ρ, hs, p, hs', G, E, q, k⟩ => by
  refine ⟨ah, F, N, ρ, hs, p, hs', G, E, q, fun F' H' a x y n nf o => ?_⟩
  obtain ⟨u, hu⟩ := o.there
  exact k (fun b => F' b ∨ b = a) H' (.ref a) ⟨fun b h => .inl (x.mono b h), fun b h => h.elim (x.new b) fun e => .inr (e ▸ n), x.keep, x.tbl⟩ (y.frz hu (G.ne n)) o.frzn

/-! ### names and constants -/
def slF : Option Slot → M PV
  | some (.fz p) => pure p
  | _ => stuck
def slB : Option Slot → M PV
  | some (.fz p) => pure p
  | some (.ow p) => pure p
  | _ => stuck
theorem slF_ok {o : Option Slot} {hs : HS} {r : PV × HS} (h : slF o hs = .ok r) : o = some (.fz r.1) ∧ r.2 = hs := by
  rcases o with _ | _ | p | p
  · cases h
  · cases h
  · cases M.pure_ok h; exact ⟨rfl, rfl⟩
  · cases h
theorem slB_ok {o : Option Slot} {hs : HS} {r : PV × HS} (h : slB o hs = .ok r) : (o = some (.fz r.1) ∨ o = some (.ow r.1)) ∧ r.2 = hs := by
  rcases o with _ | _ | p | p
  · cases h
  · cases h
  · cases M.pure_ok h; exact ⟨.inl rfl, rfl⟩
  · cases M.pure_ok h; exact ⟨.inr rfl, rfl⟩
def gVar (i : Nat) : EM := fun ρ => slF ρ[i]?
def gVarB (i : Nat) : EM := fun ρ => slB ρ[i]?
def gC (p : PV) : EM := fun _ => pure p
theorem se_var {i : Nat} {x : Str} (h : PE X (.Name x pos) (tVar i)) : SE X (.Name x pos) (gVar i) := PE.wk h fun σ H Q ⟨ah, F, N, ρ, hs, p, hs', G, E, q, k⟩ => by
  obtain ⟨e, e2⟩ := slF_ok q
  cases e2
  obtain ⟨v, e1, r⟩ := E.get e
  exact ⟨v, e1, k F H v .refl G r⟩
theorem sb_var {i : Nat} {x : Str} (h : PE X (.Name x pos) (tVar i)) : SB X (.Name x pos) (gVarB i) := PE.wk h fun σ H Q ⟨ah, F, N, ρ, hs, p, hs', G, E, q, k⟩ => by
  obtain ⟨e, e2⟩ := slB_ok q
  cases e2
  rcases e with e | e
  · obtain ⟨v, e1, r⟩ := E.get e
    exact ⟨v, e1, k F H v .refl G (.inl r)⟩
  · obtain ⟨a, e1, _⟩ := E.own e
    exact ⟨.ref a, e1, k F H _ .refl G (.inr ⟨i, e, e1⟩)⟩
/-- a constant -/
theorem se_c {v : V} {p : PV} (h : PE X e (tC v)) (r : ∀ ah F H, Rep X.K ah F H v p) : SE X e (gC p) := PE.wk h fun σ H Q ⟨ah, F, N, ρ, hs, p, hs', G, E, q, k⟩ => by
  cases M.pure_ok q
  exact k F H v .refl G (r _ _ _)
theorem se_int {i : Int} {j} : SE X (.Constant (.int i) j pos) (gC (.int i)) := se_c pe_int fun _ _ _ => .int i
theorem se_bl {i : Bool} {j} : SE X (.Constant (.bool i) j pos) (gC (.bl i)) := se_c pe_bl fun _ _ _ => .bl i
theorem se_str {i : Str} {j} : SE X (.Constant (.str i) j pos) (gC (.str i)) := se_c pe_str fun _ _ _ => .str i
theorem se_non {j} : SE X (.Constant .none j pos) (gC .non) := se_c pe_non fun _ _ _ => .non
/-- a module's constant -/
theorem se_gint {x : Str} {i : Int} {t : Tok} (hm : X.mg x = some (.int i t)) (hg : Gl X x) (hd : (x == ("__debug__" : Str)) = false := by decide) : SE X (.Name x pos) (gC (.int i)) := se_c (v := .int i) (pe_glob hg hm ⟨t, rfl⟩ hd) fun _ _ _ => .int i
theorem se_gstr {x y : Str} {t : Tok} (hm : X.mg x = some (.str y t)) (hg : Gl X x) (hd : (x == ("__debug__" : Str)) = false := by decide) : SE X (.Name x pos) (gC (.str y)) := se_c (v := .str y) (pe_glob hg hm ⟨t, rfl⟩ hd) fun _ _ _ => .str y

/-! ### two in a row -/
def gBin (f : PV → PV → M PV) (ga gb : EM) : EM := fun ρ => do
  let x ← ga ρ
  let y ← gb ρ
  f x y
/-- an operation on values: r is its reading -/
def OpS (X : Cx) (r : R2) (fp : PV → PV → M PV) : Prop := ∀ (ah : Ax) (F : Addr → Prop) (H : Hp) (hs hs' : HS) (x y : V) (p q z : PV) (Q : VK), GI X.K ah F H hs → Con X.K ah F H x p → Con X.K ah F H y q → fp p q hs = .ok (z, hs') →
  (∀ F' H' v, Ext X.K ah F H F' H' → GI X.K ah F' H' hs' → Rep X.K ah F' H' v z → Q v H') → r x y H Q
def OpF (X : Cx) (r : R2) (fp : PV → PV → M PV) : Prop := ∀ (ah : Ax) (F : Addr → Prop) (H : Hp) (hs hs' : HS) (x y : V) (p q z : PV) (Q : VK), GI X.K ah F H hs → Con X.K ah F H x p → Con X.K ah F H y q → fp p q hs = .ok (z, hs') →
  (∀ F' H' a, Ext X.K ah F H F' H' → GI X.K ah F' H' hs' → H a = none → ¬ F' a → Own X.K ah F' H' a z → Q (.ref a) H') → r x y H Q
theorem bin_w {r : R2} {fp : PV → PV → M PV} (ho : OpS X r fp) (σ : L2.St) (H : Hp) (Q : VK) (h : tS X.K (gBin fp ga gb) σ H Q) : tOp r (tSB X.K ga) (tSB X.K gb) σ H Q := by
  obtain ⟨ah, F, N, ρ, hs, p, hs', G, E, q, k⟩ := h
  obtain ⟨x, h1, q1, q⟩ := M.bind_ok q
  obtain ⟨y, h2, q2, q⟩ := M.bind_ok q
  refine ⟨ah, F, N, ρ, hs, x, h1, G, E, q1, fun F1 H1 v1 x1 G1 r1 => ?_⟩
  have E1 := E.ext G x1
  refine ⟨ah, F1, N, ρ, h1, y, h2, G1, E1, q2, fun F2 H2 v2 x2 G2 r2 => ?_⟩
  have E2 := E1.ext G1 x2
  have x12 := x1.trans G G1 x2
  exact ho ah F2 H2 h2 hs' v1 v2 x y p Q G2 ((r1.ext G1 x2).con E2) (r2.con E2) q fun F3 H3 v x3 G3 r3 => k F3 H3 v (x12.trans G G2 x3) G3 r3
theorem bin_f {r : R2} {fp : PV → PV → M PV} (ho : OpF X r fp) (σ : L2.St) (H : Hp) (Q : VK) (h : tSF X.K (gBin fp ga gb) σ H Q) : tOp r (tSB X.K ga) (tSB X.K gb) σ H Q := by
  obtain ⟨ah, F, N, ρ, hs, p, hs', G, E, q, k⟩ := h
  obtain ⟨x, h1, q1, q⟩ := M.bind_ok q
  obtain ⟨y, h2, q2, q⟩ := M.bind_ok q
  refine ⟨ah, F, N, ρ, hs, x, h1, G, E, q1, fun F1 H1 v1 x1 G1 r1 => ?_⟩
  have E1 := E.ext G x1
  refine ⟨ah, F1, N, ρ, h1, y, h2, G1, E1, q2, fun F2 H2 v2 x2 G2 r2 => ?_⟩
  have E2 := E1.ext G1 x2
  have x12 := x1.trans G G1 x2
  exact ho ah F2 H2 h2 hs' v1 v2 x y p Q G2 ((r1.ext G1 x2).con E2) (r2.con E2) q fun F3 H3 a x3 G3 n nf o => k F3 H3 a (x12.trans G G2 x3) G3 (x12.free G n (G2.ne n)) nf o
theorem se_op {op : Operator} {r : R2} {fp : PV → PV → M PV} (hr : OpR X (binaryOp op) r) (ho : OpS X r fp) (ha : SB X a ga) (hb : SB X b gb) : SE X (.BinOp a op b pos) (gBin fp ga gb) := PE.wk (pe_op hr ha hb) (bin_w ho)
theorem sf_op {op : Operator} {r : R2} {fp : PV → PV → M PV} (hr : OpR X (binaryOp op) r) (ho : OpF X r fp) (ha : SB X a ga) (hb : SB X b gb) : SF X (.BinOp a op b pos) (gBin fp ga gb) := PE.wk (pe_op hr ha hb) (bin_f ho)
theorem se_cmp {op : CmpOp} {r : R2} {fp : PV → PV → M PV} (hr : OpR X (compareOp op) r) (ho : OpS X r fp) (ha : SB X a ga) (hb : SB X b gb) (hm : behindInMarks op b = false) : SE X (.Compare a [op] [b] pos) (gBin fp ga gb) := PE.wk (pe_cmpR hr ha hb hm) (bin_w ho)
theorem OpS.or {r r' : R2} {f f' fp : PV → PV → M PV} (h : OpS X r f) (h' : OpS X r' f') (hf : ∀ p q hs z, fp p q hs = .ok z → f p q hs = .ok z ∨ f' p q hs = .ok z) : OpS X (fun x y H Q => r x y H Q ∨ r' x y H Q) fp :=
  fun ah F H hs hs' x y p q z Q G c d e k => (hf p q hs _ e).imp (fun e => h ah F H hs hs' x y p q z Q G c d e k) fun e => h' ah F H hs hs' x y p q z Q G c d e k
end
end SL

end
section
namespace SL
open PySem PySem.Spec PyProof.Rows L2
variable [Tbs]
abbrev SZ : Nat := 16777216
theorem szE : sizeLine = SZ := sizeLine_eq
theorem OpF.s {X : Cx} {r : R2} {fp : PV → PV → M PV} (h : OpF X r fp) : OpS X r fp := fun ah F H hs hs' x y p q z Q G c d e k => by
  refine h ah F H hs hs' x y p q z Q G c d e fun F' H' a x y n nf o => ?_
  obtain ⟨u, hu⟩ := o.there
  exact k (fun b => F' b ∨ b = a) H' (.ref a) ⟨fun b h => .inl (x.mono b h), fun b h => h.elim (x.new b) fun e => .inr (e ▸ n), x.keep, x.tbl⟩ (y.frz hu (G.ne n)) o.frzn
/-! ### a new tuple, a new list -/
theorem new_tup {K : Fg} {ah : Ax} {F : Addr → Prop} {H : Hp} {hs : HS} {vs : List V} {ps : List PV} {Q : VK} {a : Addr} (G : GI K ah F H hs) (n : H a = none) (z : vs.length ≤ sizeLine) (r : Reps K ah F H vs ps)
    (k : ∀ F' H' v, Ext K ah F H F' H' → GI K ah F' H' hs → Rep K ah F' H' v (.tup ps) → Q v H') : Q (.ref a) (upd H a (.tup vs)) :=
  k F _ _ (.laid n) (G.laid n) (.tup upd_same z (r.mono (G.kpL n)))
theorem new_lst {K : Fg} {ah : Ax} {F : Addr → Prop} {H : Hp} {hs : HS} {vs : List V} {ps : List PV} {Q : VK} {a : Addr} (G : GI K ah F H hs) (n : H a = none) (z : vs.length ≤ sizeLine) (r : Reps K ah F H vs ps)
    (k : ∀ F' H' b, Ext K ah F H F' H' → GI K ah F' H' hs → H b = none → ¬ F' b → Own K ah F' H' b (.lst ps) → Q (.ref b) H') : Q (.ref a) (upd H a (.lst vs)) :=
  k F _ _ (.laid n) (G.laid n) n (G.nf n) (.lst upd_same z (r.mono (G.kpL n)))

/-! ### operators on values -/
def int2 (f : Int → Int → M PV) : PV → PV → M PV
  | .int i, .int j => f i j
  | _, _ => stuck
theorem int2_ok {f : Int → Int → M PV} {p q : PV} {hs : HS} {r : PV × HS} (h : int2 f p q hs = .ok r) : ∃ i j, p = .int i ∧ q = .int j ∧ f i j hs = .ok r := by
  unfold int2 at h
  split at h
  · exact ⟨_, _, rfl, rfl, h⟩
  · cases h
def guardM {α : Type} (c : Prop) [Decidable c] (x : M α) : M α := if c then x else stuck
theorem guard_ok {α : Type} {c : Prop} [Decidable c] {x : M α} {hs : HS} {r : α × HS} (h : guardM c x hs = .ok r) : c ∧ x hs = .ok r := by
  unfold guardM at h
  by_cases e : c
  · rw [if_pos e] at h; exact ⟨e, h⟩
  · rw [if_neg e] at h; cases h
section
variable {X : Cx}
theorem ops_int {g : Int → Int → Int} : OpS X (rI0 fun i j => .int (g i j)) (int2 fun i j => pure (.int (g i j))) := fun ah F H hs hs' x y p q z Q G c d e k => by
  obtain ⟨i, j, rfl, rfl, e⟩ := int2_ok e
  cases M.pure_ok e
  exact ⟨i, j, c.int, d.int, k F H _ .refl G (.int _)⟩
theorem ops_bl {g : Int → Int → Bool} : OpS X (rI0 fun i j => .bl (g i j)) (int2 fun i j => pure (.bl (g i j))) := fun ah F H hs hs' x y p q z Q G c d e k => by
  obtain ⟨i, j, rfl, rfl, e⟩ := int2_ok e
  cases M.pure_ok e
  exact ⟨i, j, c.int, d.int, k F H _ .refl G (.bl _)⟩
theorem ops_intC {C : Int → Int → Prop} {D : Int → Int → Prop} [∀ i j, Decidable (D i j)] {g : Int → Int → Int} (w : ∀ i j, D i j → C i j) : OpS X (rI C fun i j => .int (g i j)) (int2 fun i j => guardM (D i j) (pure (.int (g i j)))) := fun ah F H hs hs' x y p q z Q G c d e k => by
  obtain ⟨i, j, rfl, rfl, e⟩ := int2_ok e
  obtain ⟨hd, e⟩ := guard_ok e
  cases M.pure_ok e
  exact ⟨i, j, c.int, d.int, w i j hd, k F H _ .refl G (.int _)⟩
def pAdd : PV → PV → M PV
  | .int i, .int j => pure (.int (i + j))
  | .tup a, .tup b => guardM (a.length + b.length ≤ SZ) (pure (.tup (a ++ b)))
  | .lst a, .lst b => guardM (a.length + b.length ≤ SZ) (pure (.lst (a ++ b)))
  | _, _ => stuck
theorem ops_catT : OpS X (rCatA X.K) (fun p q => match p, q with | .tup a, .tup b => guardM (a.length + b.length ≤ SZ) (pure (.tup (a ++ b))) | _, _ => stuck) := fun ah F H hs hs' x y p q z Q G c d e k => by
  dsimp only at e
  split at e
  · obtain ⟨hl, e⟩ := guard_ok e
    cases M.pure_ok e
    rename_i a b
    obtain ⟨p1, vs, rfl, h1, z1, r1⟩ := c.tup
    obtain ⟨p2, ws, rfl, h2, z2, r2⟩ := d.tup
    have hl' : vs.length + ws.length ≤ sizeLine := by rw [r1.length, r2.length, szE]; exact hl
    refine ⟨p1, p2, vs, ws, rfl, rfl, .of h1, .of h2, hl', fun e => ?_, fun _ e => ?_, fun _ _ a n => ?_⟩
    · subst e
      cases r1
      exact k F H _ .refl G (.tup h2 z2 r2)
    · subst e
      cases r2
      rw [List.append_nil] at k
      exact k F H _ .refl G (.tup h1 z1 r1)
    · exact new_tup G n (by rw [List.length_append]; exact hl') (r1.append r2) k
  · cases e
theorem opf_catL : OpF X rCat (fun p q => match p, q with | .lst a, .lst b => guardM (a.length + b.length ≤ SZ) (pure (.lst (a ++ b))) | _, _ => stuck) := fun ah F H hs hs' x y p q z Q G c d e k => by
  dsimp only at e
  split at e
  · obtain ⟨hl, e⟩ := guard_ok e
    cases M.pure_ok e
    obtain ⟨p1, vs, rfl, h1, z1, r1⟩ := c.lst
    obtain ⟨p2, ws, rfl, h2, z2, r2⟩ := d.lst
    have hl' : vs.length + ws.length ≤ sizeLine := by rw [r1.length, r2.length, szE]; exact hl
    exact ⟨p1, p2, vs, ws, rfl, rfl, h1, h2, hl', fun a n => new_lst G n (by rw [List.length_append]; exact hl') (r1.append r2) k⟩
  · cases e
theorem ops_add : OpS X (fun x y H Q => (rI0 fun i j => .int (i + j)) x y H Q ∨ (fun x y H Q => rCatA X.K x y H Q ∨ rCat x y H Q) x y H Q) pAdd :=
  OpS.or (ops_int (g := fun i j => i + j)) (OpS.or (fp := fun p q => match p, q with | .tup a, .tup b => pAdd (.tup a) (.tup b) | .lst a, .lst b => pAdd (.lst a) (.lst b) | _, _ => stuck) ops_catT opf_catL.s fun p q hs z e => by
    split at e
    · exact .inl e
    · exact .inr e
    · cases e) fun p q hs z e => by
    unfold pAdd at e
    split at e
    · exact .inl e
    · exact .inr e
    · exact .inr e
    · cases e
theorem opr_add : OpR X (binaryOp .Add) (fun x y H Q => (rI0 fun i j => .int (i + j)) x y H Q ∨ (fun x y H Q => rCatA X.K x y H Q ∨ rCat x y H Q) x y H Q) := op_add.or (op_catA.or op_cat)
/-- xs + ys, a new list that is this frame's own -/
def pCat : PV → PV → M PV := fun p q => match p, q with | .lst a, .lst b => guardM (a.length + b.length ≤ SZ) (pure (.lst (a ++ b))) | _, _ => stuck
theorem opf_cat : OpF X rCat pCat := opf_catL
def pSub : PV → PV → M PV := int2 fun i j => pure (.int (i - j))
def pMul : PV → PV → M PV := int2 fun i j => guardM ((-(2 ^ 64) < i ∧ i < 2 ^ 64) ∨ (-(2 ^ 64) < j ∧ j < 2 ^ 64)) (pure (.int (i * j)))
def pDiv : PV → PV → M PV := int2 fun i j => guardM (0 < j ∧ j < 2 ^ 64) (pure (.int (i / j)))
def pMod : PV → PV → M PV := int2 fun i j => guardM (0 < j) (pure (.int (i % j)))
def pPow : PV → PV → M PV := int2 fun i j => guardM (0 ≤ j ∧ j ≤ 1000000 ∧ i.natAbs < 2 ^ 64) (pure (.int (i ^ j.toNat)))
def pShl : PV → PV → M PV := int2 fun i j => guardM (0 ≤ j ∧ j ≤ 1000000 ∧ i.natAbs < 2 ^ 64) (pure (.int (i * 2 ^ j.toNat)))
theorem ops_sub : OpS X (rI0 fun i j => .int (i - j)) pSub := ops_int
theorem ops_mul : OpS X (rI CMul fun i j => .int (i * j)) pMul := ops_intC fun _ _ h => h
theorem ops_div : OpS X (rI CDivW fun i j => .int (i / j)) pDiv := ops_intC fun i j h => wide_div (i := i) (b := 64) h.1 (by have := h.2; have := h.1; omega) (by decide) (by decide)
theorem ops_mod : OpS X (rI (fun _ j => 0 < j) fun i j => .int (i % j)) pMod := ops_intC fun _ _ h => h
theorem ops_pow : OpS X (rI CPow fun i j => .int (i ^ j.toNat)) pPow := ops_intC fun _ _ h => h
theorem ops_shl : OpS X (rI CPow fun i j => .int (i * 2 ^ j.toNat)) pShl := ops_intC fun _ _ h => h

/-! ### comparisons -/
def ints? : List PV → Option (List Int)
  | [] => some []
  | .int i :: r => (ints? r).map (i :: ·)
  | _ => none
theorem ints?_eq : ∀ {ps : List PV} {ns : List Int}, ints? ps = some ns → ps = ns.map PV.int
  | [], _, h => by cases h; rfl
  | p :: r, ns, h => by
    cases p with
    | int i =>
      have h : (ints? r).map (i :: ·) = some ns := h
      cases e : ints? r with
      | none => rw [e] at h; cases h
      | some ms =>
        rw [e] at h; cases h
        rw [ints?_eq e]; rfl
    | _ => cases h
theorem Reps.ints_of {K : Fg} {ah : Ax} {F : Addr → Prop} {H : Hp} : ∀ {vs : List V} {ns : List Int}, Reps K ah F H vs (ns.map PV.int) → vs = ns.map V.int
  | _, [], .nil => rfl
  | _, n :: r, .cons h t => by
    cases h
    rw [Reps.ints_of t]; rfl
def pLt : PV → PV → M PV
  | .int i, .int j => pure (.bl (decide (i < j)))
  | .tup a, .tup b => match ints? a, ints? b with
    | some ns, some ms => pure (.bl (HT.lexLt ns ms))
    | _, _ => stuck
  | _, _ => stuck
theorem ops_ltT : OpS X (rLtT X.K) (fun p q => match p, q with | .tup a, .tup b => pLt (.tup a) (.tup b) | _, _ => stuck) := fun ah F H hs hs' x y p q z Q G c d e k => by
  dsimp only at e
  split at e
  · rename_i a b
    unfold pLt at e
    dsimp only at e
    cases e1 : ints? a with
    | none => rw [e1] at e; cases e
    | some ns =>
      cases e2 : ints? b with
      | none => rw [e1, e2] at e; cases e
      | some ms =>
        rw [e1, e2] at e
        cases M.pure_ok e
        rw [ints?_eq e1] at c
        rw [ints?_eq e2] at d
        obtain ⟨p1, vs, rfl, h1, z1, r1⟩ := c.tup
        obtain ⟨p2, ws, rfl, h2, z2, r2⟩ := d.tup
        rw [r1.ints_of] at h1
        rw [r2.ints_of] at h2
        exact ⟨_, _, _, _, rfl, rfl, .of h1, .of h2, k F H _ .refl G (.bl _)⟩
  · cases e
theorem ops_lt : OpS X (fun x y H Q => (rI0 fun i j => .bl (decide (i < j))) x y H Q ∨ rLtT X.K x y H Q) pLt := OpS.or (ops_bl (g := fun i j => decide (i < j))) ops_ltT fun p q hs z e => by
  cases p with
  | int i => cases q with
    | int j => exact .inl e
    | _ => cases e
  | tup a => cases q with
    | tup b => exact .inr e
    | _ => cases e
  | _ => cases e
theorem opr_lt (hu : X.A.units < cLine) : OpR X (compareOp .Lt) (fun x y H Q => (rI0 fun i j => .bl (decide (i < j))) x y H Q ∨ rLtT X.K x y H Q) := op_lt.or (op_ltT hu)
def pLe : PV → PV → M PV := int2 fun i j => pure (.bl (decide (i ≤ j)))
def pGt : PV → PV → M PV := int2 fun i j => pure (.bl (decide (j < i)))
def pGe : PV → PV → M PV := int2 fun i j => pure (.bl (decide (j ≤ i)))
theorem ops_le : OpS X (rI0 fun i j => .bl (decide (i ≤ j))) pLe := ops_bl
theorem ops_gt : OpS X (rI0 fun i j => .bl (decide (j < i))) pGt := ops_bl
theorem ops_ge : OpS X (rI0 fun i j => .bl (decide (j ≤ i))) pGe := ops_bl

mutual
def toD : PV → Option PyData
  | .non => some .none
  | .bl b => some (.bool b)
  | .int i => some (.int i)
  | .str x => some (.str x)
  | .tup l => (toDs l).map .tuple
  | .ptp l => (toDs l).map .tuple
  | .lst l => (toDs l).map .list
  | _ => none
def toDs : List PV → Option (List PyData)
  | [] => some []
  | p :: r => match toD p, toDs r with
    | some d, some ds => some (d :: ds)
    | _, _ => none
end
mutual
theorem toD_rep {K : Fg} {ah : Ax} {F : Addr → Prop} {H : Hp} : ∀ {p : PV} {v : V} {d : PyData}, Rep K ah F H v p → toD p = some d → Dp K H v d
  | _, _, _, .non, h => by cases h; exact .non
  | _, _, _, .bl b, h => by cases h; exact .bl b
  | _, _, _, .int b, h => by cases h; exact .int b
  | _, _, _, .str b, h => by cases h; exact .str b
  | _, _, _, .ty n, h => by cases h
  | _, _, _, .hand _, h => by cases h
  | _, _, _, .scr _ _, h => by cases h
  | _, _, _, .dK _ _ _ _ _, h => by cases h
  | _, _, _, .dT _ _ _ _ _, h => by cases h
  | .tup l, _, d, .tup a z r, h => by
    rw [toD] at h
    cases e : toDs l with
    | none => rw [e] at h; cases h
    | some ds => rw [e] at h; cases h; exact .tup (.of a) (toDs_rep r e)
  | .ptp l, _, d, .ptp a _ z r, h => by
    rw [toD] at h
    cases e : toDs l with
    | none => rw [e] at h; cases h
    | some ds => rw [e] at h; cases h; exact .tup (.inl (.inr ⟨_, a⟩)) (toDs_rep r e)
  | .lst l, _, d, .lst f a z r, h => by
    rw [toD] at h
    cases e : toDs l with
    | none => rw [e] at h; cases h
    | some ds => rw [e] at h; cases h; exact .lst (.of a) (toDs_rep r e)
theorem toDs_rep {K : Fg} {ah : Ax} {F : Addr → Prop} {H : Hp} : ∀ {ps : List PV} {vs : List V} {ds : List PyData}, Reps K ah F H vs ps → toDs ps = some ds → DpAll K H vs ds
  | _, _, _, .nil, h => by cases h; exact .nil
  | p :: ps, _, ds, .cons r t, h => by
    rw [toDs] at h
    cases e1 : toD p with
    | none => rw [e1] at h; cases h
    | some d =>
      cases e2 : toDs ps with
      | none => rw [e1, e2] at h; cases h
      | some ds => rw [e1, e2] at h; cases h; exact .cons (toD_rep r e1) (toDs_rep t e2)
end
theorem toD_con {K : Fg} {ah : Ax} {F : Addr → Prop} {H : Hp} {p : PV} {v : V} {d : PyData} (c : Con K ah F H v p) (h : toD p = some d) : Dp K H v d := by
  cases c with
  | rep r => exact toD_rep r h
  | own o =>
    cases o with
    | @lst vs ps a z r =>
      rw [toD] at h
      cases e : toDs ps with
      | none => rw [e] at h; cases h
      | some ds => rw [e] at h; cases h; exact .lst (.of a) (toDs_rep r e)
    | dK => cases h
    | dT => cases h
/-- == of data; the scalars apart -/
def pEqB (neg : Bool) : PV → PV → M PV
  | .int i, .int j => pure (.bl (neg ^^ (i == j)))
  | .str i, .str j => pure (.bl (neg ^^ (i == j)))
  | .bl i, .bl j => pure (.bl (neg ^^ (i == j)))
  | p, q => match toD p, toD q with
    | some d, some e => guardM (SeqAt.shaped d = true ∧ SeqAt.shaped e = true) (pure (.bl (neg ^^ PyData.eqv d e)))
    | _, _ => stuck
def pEq : PV → PV → M PV := pEqB false
def pNe : PV → PV → M PV := pEqB true
theorem ops_eqN (neg : Bool) : OpS X (fun x y H Q => (scal x y = true ∧ Q (.bl (neg ^^ decide (x = y))) H) ∨ ∃ d e, Dp X.K H x d ∧ Dp X.K H y e ∧ SeqAt.shaped d = true ∧ SeqAt.shaped e = true ∧ Q (.bl (neg ^^ PyData.eqv d e)) H) (pEqB neg) := fun ah F H hs hs' x y p q z Q G c d e k => by
  unfold pEqB at e
  split at e
  · cases M.pure_ok e
    refine .inl ?_
    rw [c.int, d.int]
    exact ⟨rfl, by rw [dec_int]; exact k F H _ .refl G (.bl _)⟩
  · cases M.pure_ok e
    refine .inl ?_
    rw [c.str, d.str]
    exact ⟨rfl, by rw [dec_str]; exact k F H _ .refl G (.bl _)⟩
  · cases M.pure_ok e
    refine .inl ?_
    rw [c.bl, d.bl]
    exact ⟨rfl, by rw [dec_bl]; exact k F H _ .refl G (.bl _)⟩
  · cases e1 : toD p with
    | none => rw [e1] at e; cases e
    | some d1 =>
      cases e2 : toD q with
      | none => rw [e1, e2] at e; cases e
      | some d2 =>
        rw [e1, e2] at e
        obtain ⟨⟨s1, s2⟩, e⟩ := guard_ok e
        cases M.pure_ok e
        exact .inr ⟨_, _, toD_con c e1, toD_con d e2, s1, s2, k F H _ .refl G (.bl _)⟩
theorem ops_eq : OpS X (fun x y H Q => rEq x y H Q ∨ rEqD X.K x y H Q) pEq := fun ah F H hs hs' x y p q z Q G c d e k => (ops_eqN false ah F H hs hs' x y p q z Q G c d e k).imp (fun ⟨h, q⟩ => ⟨h, by simpa using q⟩) fun ⟨d, e, h1, h2, h3, h4, q⟩ => ⟨d, e, h1, h2, h3, h4, by simpa using q⟩
theorem ops_ne : OpS X (fun x y H Q => rNe x y H Q ∨ rNeD X.K x y H Q) pNe := fun ah F H hs hs' x y p q z Q G c d e k => (ops_eqN true ah F H hs hs' x y p q z Q G c d e k).imp (fun ⟨h, q⟩ => ⟨h, by simpa using q⟩) fun ⟨d, e, h1, h2, h3, h4, q⟩ => ⟨d, e, h1, h2, h3, h4, by simpa using q⟩
theorem opr_eq (hu : X.A.units + 64 < cLine) : OpR X (compareOp .Eq) (fun x y H Q => rEq x y H Q ∨ rEqD X.K x y H Q) := op_eq.or (op_eqD hu)
theorem opr_ne (hu : X.A.units + 64 < cLine) : OpR X (compareOp .NotEq) (fun x y H Q => rNe x y H Q ∨ rNeD X.K x y H Q) := op_ne.or (op_neD hu)

def flatP : PV → Bool
  | .non | .bl _ | .int _ | .str _ => true
  | _ => false
def eqP : PV → PV → Bool
  | .non, .non => true
  | .bl a, .bl b => a == b
  | .bl a, .int b => (if a then 1 else 0) == b
  | .int a, .bl b => a == (if b then 1 else 0)
  | .int a, .int b => a == b
  | .str a, .str b => a == b
  | _, _ => false
theorem flat_rep {K : Fg} {ah : Ax} {F : Addr → Prop} {H : Hp} {v w : V} {p q : PV} (r : Rep K ah F H v p) (f : flatP p = true) (r' : Rep K ah F H w q) (f' : flatP q = true) : flatV v = true ∧ eqV v w = eqP p q := by
  cases p <;> first | (cases f; done) | skip
  all_goals cases r
  all_goals (cases q <;> first | (cases f'; done) | skip)
  all_goals cases r'
  all_goals exact ⟨rfl, rfl⟩
theorem flat_one {K : Fg} {ah : Ax} {F : Addr → Prop} {H : Hp} {v : V} {p : PV} (r : Rep K ah F H v p) (f : flatP p = true) : flatV v = true := by
  cases p <;> first | (cases f; done) | skip
  all_goals (cases r; rfl)
theorem flat_all {K : Fg} {ah : Ax} {F : Addr → Prop} {H : Hp} {w : V} {q : PV} (r' : Rep K ah F H w q) (f' : flatP q = true) : ∀ {vs : List V} {ps : List PV}, Reps K ah F H vs ps → ps.all flatP = true → vs.all flatV = true ∧ inV w vs = ps.any fun y => eqP y q
  | _, _, .nil, _ => ⟨rfl, rfl⟩
  | _, _, .cons r t, f => by
    rw [List.all_cons, Bool.and_eq_true] at f
    obtain ⟨h1, h2⟩ := flat_all r' f' t f.2
    obtain ⟨h3, h4⟩ := flat_rep r f.1 r' f'
    refine ⟨by rw [List.all_cons, h1, h3]; rfl, ?_⟩
    unfold inV at h2 ⊢
    rw [List.any_cons, List.any_cons, h2, h4]
def pInB (neg : Bool) (p : PV) : PV → M PV
  | .tup l => guardM (flatP p = true ∧ l.all flatP = true) (pure (.bl (neg ^^ l.any fun y => eqP y p)))
  | .lst l => guardM (flatP p = true ∧ l.all flatP = true) (pure (.bl (neg ^^ l.any fun y => eqP y p)))
  | _ => stuck
def pIn : PV → PV → M PV := pInB false
def pNotIn : PV → PV → M PV := pInB true
theorem flat_con {K : Fg} {ah : Ax} {F : Addr → Prop} {H : Hp} {v : V} {p : PV} (r : Con K ah F H v p) (f : flatP p = true) : Rep K ah F H v p := by
  cases r with
  | rep r => exact r
  | own o => cases o <;> cases f
theorem ops_in (neg : Bool) : OpS X (rIn X.K neg) (pInB neg) := fun ah F H hs hs' x y p q z Q G c d e k => by
  have fin : ∀ {a vs ps}, y = .ref a → (SqL X.K H a vs ∨ SqT X.K H a vs) → Reps X.K ah F H vs ps → guardM (flatP p = true ∧ ps.all flatP = true) (pure (PV.bl (neg ^^ ps.any fun y => eqP y p))) hs = .ok (z, hs') → rIn X.K neg x y H Q := by
    intro a vs ps ey hq r e
    obtain ⟨⟨f1, f2⟩, e⟩ := guard_ok e
    cases M.pure_ok e
    have rx := flat_con c f1
    obtain ⟨h1, h2⟩ := flat_all rx f1 r f2
    refine ⟨a, vs, ey, hq, flat_one rx f1, h1, ?_⟩
    have q := k F H _ .refl G (.bl _)
    rw [← h2] at q
    cases neg <;> simpa using q
  cases q with
  | tup l =>
    obtain ⟨a, vs, e1, h, _, r⟩ := d.tup
    exact fin e1 (.inr (.of h)) r e
  | lst l =>
    obtain ⟨a, vs, e1, h, _, r⟩ := d.lst
    exact fin e1 (.inl (.of h)) r e
  | _ => cases e
/-- is None, is not None -/
def isNon : PV → Bool
  | .non => true
  | _ => false
def pIsN (neg : Bool) (p : PV) : PV → M PV
  | .non => pure (.bl (neg ^^ isNon p))
  | _ => stuck
theorem isNon_con {K : Fg} {ah : Ax} {F : Addr → Prop} {H : Hp} {v : V} {p : PV} (r : Con K ah F H v p) : decide (v = .non) = isNon p := by
  cases r with
  | rep r => cases r <;> rfl
  | own o => cases o <;> rfl
theorem ops_isN : OpS X (fun x y H Q => y = .non ∧ Q (.bl (decide (x = .non))) H) (pIsN false) := fun ah F H hs hs' x y p q z Q G c d e k => by
  cases q <;> first | (cases e; done) | skip
  cases M.pure_ok e
  refine ⟨d.non, ?_⟩
  rw [isNon_con c]
  simpa using k F H _ .refl G (.bl _)
theorem ops_notN : OpS X (fun x y H Q => y = .non ∧ Q (.bl (!decide (x = .non))) H) (pIsN true) := fun ah F H hs hs' x y p q z Q G c d e k => by
  cases q <;> first | (cases e; done) | skip
  cases M.pure_ok e
  refine ⟨d.non, ?_⟩
  rw [isNon_con c]
  simpa using k F H _ .refl G (.bl _)
end
end SL

end
section
namespace SL
open PySem PySem.Spec PyProof.Rows L2
variable [Tbs]
/-! ### tests -/
abbrev TM := Ev → M Bool
/-- a value's truth -/
def pTru : PV → M Bool
  | .non => pure false
  | .bl b => pure b
  | .int i => pure (i != 0)
  | .tup l => pure (!l.isEmpty)
  | .lst l => pure (!l.isEmpty)
  | .dK l => pure (!l.isEmpty)
  | _ => stuck
def gTru (g : EM) : TM := fun ρ => do
  let x ← g ρ
  pTru x
theorem isEmpty_reps {K : Fg} {ah : Ax} {F : Addr → Prop} {H : Hp} {vs : List V} {ps : List PV} (r : Reps K ah F H vs ps) : vs.isEmpty = ps.isEmpty := by cases r <;> rfl
theorem isEmpty_keys {κ α β : Type} {l : List (κ × α)} {m : List (κ × β)} (h : l.map (·.1) = m.map (·.1)) : l.isEmpty = m.isEmpty := by
  cases l <;> cases m <;> first | rfl | simp at h
theorem tru_con {K : Fg} {ah : Ax} {F : Addr → Prop} {H : Hp} {hs hs' : HS} {v : V} {p : PV} {b : Bool} (c : Con K ah F H v p) (h : pTru p hs = .ok (b, hs')) : TruV K v H b ∧ hs' = hs := by
  cases p with
  | non => cases M.pure_ok h; rw [c.non]; exact ⟨rfl, rfl⟩
  | bl i => cases M.pure_ok h; rw [c.bl]; exact ⟨rfl, rfl⟩
  | int i => cases M.pure_ok h; rw [c.int]; exact ⟨rfl, rfl⟩
  | tup l =>
    cases M.pure_ok h
    obtain ⟨a, vs, rfl, h, z, r⟩ := c.tup
    exact ⟨.inr (.inl ⟨vs, .of h, by rw [isEmpty_reps r]⟩), rfl⟩
  | lst l =>
    cases M.pure_ok h
    obtain ⟨a, vs, rfl, h, z, r⟩ := c.lst
    exact ⟨.inl ⟨vs, .of h, by rw [isEmpty_reps r]⟩, rfl⟩
  | dK l =>
    cases M.pure_ok h
    refine ⟨?_, rfl⟩
    cases c with
    | rep r => cases r with | dK f h z e r => exact .inr (.inr ⟨_, h, by rw [isEmpty_keys e]⟩)
    | own o => cases o with | dK h z e r => exact .inr (.inr ⟨_, h, by rw [isEmpty_keys e]⟩)
  | _ => cases h
section
variable {X : Cx} {e a b c : Expr} {es rest : List Expr} {pos : Pos} {g ga gb gc : EM} {ta tb : TM} {gs : Ev → M (List PV)}
theorem st_tru (h : SB X e g) (he : ∀ whole, isTrue e X.env whole = (do let v ← whole; standAt e.pos; holding [v] (truthy v)) := by intro _; rfl) : ST X e (gTru g) := PT.wk (pt_truth h he) fun σ H Q ⟨ah, F, N, ρ, hs, p, hs', G, E, q, k⟩ => by
  obtain ⟨x, h1, q1, q⟩ := M.bind_ok q
  refine ⟨ah, F, N, ρ, hs, x, h1, G, E, q1, fun F1 H1 v1 x1 G1 r1 => ?_⟩
  obtain ⟨t, e⟩ := tru_con (r1.con (E.ext G x1)) q
  subst e
  exact ⟨p, t, k F1 H1 x1 G1⟩
/-- a truth value, as a test -/
def asBl : PV → M Bool
  | .bl b => pure b
  | _ => stuck
theorem asBl_ok {p : PV} {hs : HS} {r : Bool × HS} (h : asBl p hs = .ok r) : p = .bl r.1 ∧ r.2 = hs := by
  cases p <;> first | (cases h; done) | skip
  cases M.pure_ok h
  exact ⟨rfl, rfl⟩
def gTB (g : EM) : TM := fun ρ => do
  let x ← g ρ
  asBl x
theorem tb_w {t : TE} (w : ∀ σ H Q, tS X.K g σ H Q → t σ H Q) (σ : L2.St) (H : Hp) (Q : Bool → Hp → Prop) (h : tST X.K (gTB g) σ H Q) : t σ H fun x H' => ∃ k, x = .bl k ∧ Q k H' := by
  obtain ⟨ah, F, N, ρ, hs, p, hs', G, E, q, k⟩ := h
  obtain ⟨x, h1, q1, q⟩ := M.bind_ok q
  obtain ⟨rfl, rfl⟩ := asBl_ok q
  refine w σ H _ ⟨ah, F, N, ρ, hs, _, _, G, E, q1, fun F1 H1 v1 x1 G1 r1 => ?_⟩
  cases r1
  exact ⟨p, rfl, k F1 H1 x1 G1⟩
theorem st_cmp {op : CmpOp} {r : R2} {fp : PV → PV → M PV} (hr : OpR X (compareOp op) r) (ho : OpS X r fp) (ha : SB X a ga) (hb : SB X b gb) (hm : behindInMarks op b = false) : ST X (.Compare a [op] [b] pos) (gTB (gBin fp ga gb)) := PT.wk (pt_cmpR hr ha hb hm) (tb_w (bin_w ho))
/-- a op b op' c -/
def gChain (f f' : PV → PV → M PV) (ga gb gc : EM) : EM := fun ρ => do
  let x ← ga ρ
  let y ← gb ρ
  let t ← f x y
  let k ← asBl t
  if k = true then (do let z ← gc ρ; f' y z) else pure (.bl false)
theorem chain_w {r r' : R2} {f f' : PV → PV → M PV} (ho : OpS X r f) (ho' : OpS X r' f') (σ : L2.St) (H : Hp) (Q : VK) (h : tS X.K (gChain f f' ga gb gc) σ H Q) : tChain r r' (tSB X.K ga) (tSB X.K gb) (tSB X.K gc) σ H Q := by
  obtain ⟨ah, F, N, ρ, hs, p, hs', G, E, q, k⟩ := h
  obtain ⟨x, h1, q1, q⟩ := M.bind_ok q
  obtain ⟨y, h2, q2, q⟩ := M.bind_ok q
  obtain ⟨t, h3, q3, q'⟩ := M.bind_ok q
  clear q
  obtain ⟨d, h4, q4, qz⟩ := M.bind_ok q'
  clear q'
  obtain ⟨rfl, rfl⟩ := asBl_ok q4
  refine ⟨ah, F, N, ρ, hs, x, h1, G, E, q1, fun F1 H1 v1 x1 G1 r1 => ?_⟩
  have E1 := E.ext G x1
  refine ⟨ah, F1, N, ρ, h1, y, h2, G1, E1, q2, fun F2 H2 v2 x2 G2 r2 => ?_⟩
  have E2 := E1.ext G1 x2
  have x12 := x1.trans G G1 x2
  refine ho ah F2 H2 h2 _ v1 v2 x y _ _ G2 ((r1.ext G1 x2).con E2) (r2.con E2) q3 fun F3 H3 v x3 G3 r3 => ?_
  cases r3
  refine ⟨d, rfl, ?_⟩
  have E3 := E2.ext G2 x3
  have x13 := x12.trans G G2 x3
  cases d with
  | false =>
    rw [if_neg Bool.false_ne_true] at qz ⊢
    cases M.pure_ok qz
    exact k F3 H3 _ x13 G3 (.bl _)
  | true =>
    rw [if_pos rfl] at qz ⊢
    obtain ⟨z, h5, q5, q⟩ := M.bind_ok qz
    refine ⟨ah, F3, N, ρ, _, z, h5, G3, E3, q5, fun F4 H4 v4 x4 G4 r4 => ?_⟩
    have E4 := E3.ext G3 x4
    exact ho' ah F4 H4 h5 hs' v2 v4 y z p Q G4 (((r2.ext G2 x3).ext G3 x4).con E4) (r4.con E4) q fun F5 H5 v x5 G5 r5 => k F5 H5 v ((x13.trans G G3 x4).trans G G4 x5) G5 r5
theorem se_chain {op op' : CmpOp} {r r' : R2} {f f' : PV → PV → M PV} (hr : OpR X (compareOp op) r) (hr' : OpR X (compareOp op') r') (ho : OpS X r f) (ho' : OpS X r' f') (ha : SB X a ga) (hb : SB X b gb) (hc : SB X c gc)
    (hm : lastMarks [op, op'] [b, c] = false := by with_unfolding_all rfl) : SE X (.Compare a [op, op'] [b, c] pos) (gChain f f' ga gb gc) := PE.wk (pe_chain hr hr' ha hb hc hm) (chain_w ho ho')
theorem st_chain {op op' : CmpOp} {r r' : R2} {f f' : PV → PV → M PV} (hr : OpR X (compareOp op) r) (hr' : OpR X (compareOp op') r') (ho : OpS X r f) (ho' : OpS X r' f') (ha : SB X a ga) (hb : SB X b gb) (hc : SB X c gc)
    (hm : lastMarks [op, op'] [b, c] = false := by with_unfolding_all rfl) : ST X (.Compare a [op, op'] [b, c] pos) (gTB (gChain f f' ga gb gc)) := PT.wk (pt_chain hr hr' ha hb hc hm) (tb_w (chain_w ho ho'))
/-! and, or, not -/
def gAndT (t u : TM) : TM := fun ρ => do
  let x ← t ρ
  if x = true then u ρ else pure false
def gOrT (t u : TM) : TM := fun ρ => do
  let x ← t ρ
  if x = true then pure true else u ρ
def gNotT (t : TM) : TM := fun ρ => do
  let x ← t ρ
  pure (!x)
abbrev SW (X : Cx) (e : Expr) (g : TM) : Prop := PW X e (tST X.K g)
theorem PW.wk {X : Cx} {e : Expr} {t u : TT} (h : PW X e t) (w : ∀ σ H Q, u σ H Q → t σ H Q) : PW X e u := ⟨fun wh pins s σ H Q I q => h.run wh pins s σ H Q I (w σ H Q q)⟩
theorem sw_and1 (h : ST X a ta) : SW X (.BoolOp .And [a] pos) ta := pw_and1 h
theorem sw_or1 (h : ST X a ta) : SW X (.BoolOp .Or [a] pos) ta := pw_or1 h
theorem sw_and (h : ST X a ta) (h' : SW X (.BoolOp .And (b :: rest) pos) tb) : SW X (.BoolOp .And (a :: b :: rest) pos) (gAndT ta tb) := PW.wk (pw_and h h') fun σ H Q ⟨ah, F, N, ρ, hs, p, hs', G, E, q, k⟩ => by
  obtain ⟨x, h1, q1, q⟩ := M.bind_ok q
  refine ⟨ah, F, N, ρ, hs, x, h1, G, E, q1, fun F1 H1 x1 G1 => ?_⟩
  cases x with
  | true => exact ⟨ah, F1, N, ρ, h1, p, hs', G1, E.ext G x1, q, fun F2 H2 x2 G2 => k F2 H2 (x1.trans G G1 x2) G2⟩
  | false => cases M.pure_ok q; exact k F1 H1 x1 G1
theorem sw_or (h : ST X a ta) (h' : SW X (.BoolOp .Or (b :: rest) pos) tb) : SW X (.BoolOp .Or (a :: b :: rest) pos) (gOrT ta tb) := PW.wk (pw_or h h') fun σ H Q ⟨ah, F, N, ρ, hs, p, hs', G, E, q, k⟩ => by
  obtain ⟨x, h1, q1, q⟩ := M.bind_ok q
  refine ⟨ah, F, N, ρ, hs, x, h1, G, E, q1, fun F1 H1 x1 G1 => ?_⟩
  cases x with
  | false => exact ⟨ah, F1, N, ρ, h1, p, hs', G1, E.ext G x1, q, fun F2 H2 x2 G2 => k F2 H2 (x1.trans G G1 x2) G2⟩
  | true => cases M.pure_ok q; exact k F1 H1 x1 G1
theorem st_w (h : SW X e ta) : ST X e ta := PW.pt h
theorem st_not (h : ST X a ta) : ST X (.UnaryOp .Not a pos) (gNotT ta) := PT.wk (pt_not h) fun σ H Q ⟨ah, F, N, ρ, hs, p, hs', G, E, q, k⟩ => by
  obtain ⟨x, h1, q1, q⟩ := M.bind_ok q
  cases M.pure_ok q
  exact ⟨ah, F, N, ρ, hs, x, _, G, E, q1, fun F1 H1 x1 G1 => k F1 H1 x1 G1⟩
/-- as values: all but the last a truth value -/
def gAnd (ga gb : EM) : EM := fun ρ => do
  let x ← ga ρ
  let k ← asBl x
  if k = true then gb ρ else pure (.bl false)
def gOr (ga gb : EM) : EM := fun ρ => do
  let x ← ga ρ
  let k ← asBl x
  if k = true then pure (.bl true) else gb ρ
def gNot (ga : EM) : EM := fun ρ => do
  let x ← ga ρ
  let k ← asBl x
  pure (.bl (!k))
theorem se_one {op} (h : SE X a ga) : SE X (.BoolOp op [a] pos) ga := pe_one h
theorem se_and (h : SE X a ga) (h' : SE X (.BoolOp .And (b :: rest) pos) gb) : SE X (.BoolOp .And (a :: b :: rest) pos) (gAnd ga gb) := PE.wk (pe_and h h') fun σ H Q ⟨ah, F, N, ρ, hs, p, hs', G, E, q, k⟩ => by
  obtain ⟨x, h1, q1, q⟩ := M.bind_ok q
  obtain ⟨d, h2, q2, q⟩ := M.bind_ok q
  obtain ⟨rfl, rfl⟩ := asBl_ok q2
  refine ⟨ah, F, N, ρ, hs, _, _, G, E, q1, fun F1 H1 v1 x1 G1 r1 => ?_⟩
  cases r1
  refine ⟨d, rfl, ?_⟩
  cases d with
  | true => exact ⟨ah, F1, N, ρ, _, p, hs', G1, E.ext G x1, q, fun F2 H2 v x2 G2 r2 => k F2 H2 v (x1.trans G G1 x2) G2 r2⟩
  | false => cases M.pure_ok q; exact k F1 H1 _ x1 G1 (.bl _)
theorem se_or (h : SE X a ga) (h' : SE X (.BoolOp .Or (b :: rest) pos) gb) : SE X (.BoolOp .Or (a :: b :: rest) pos) (gOr ga gb) := PE.wk (pe_or h h') fun σ H Q ⟨ah, F, N, ρ, hs, p, hs', G, E, q, k⟩ => by
  obtain ⟨x, h1, q1, q⟩ := M.bind_ok q
  obtain ⟨d, h2, q2, q⟩ := M.bind_ok q
  obtain ⟨rfl, rfl⟩ := asBl_ok q2
  refine ⟨ah, F, N, ρ, hs, _, _, G, E, q1, fun F1 H1 v1 x1 G1 r1 => ?_⟩
  cases r1
  refine ⟨d, rfl, ?_⟩
  cases d with
  | false => exact ⟨ah, F1, N, ρ, _, p, hs', G1, E.ext G x1, q, fun F2 H2 v x2 G2 r2 => k F2 H2 v (x1.trans G G1 x2) G2 r2⟩
  | true => cases M.pure_ok q; exact k F1 H1 _ x1 G1 (.bl _)
theorem se_not (h : SE X a ga) : SE X (.UnaryOp .Not a pos) (gNot ga) := PE.wk (pe_not h) fun σ H Q ⟨ah, F, N, ρ, hs, p, hs', G, E, q, k⟩ => by
  obtain ⟨x, h1, q1, q⟩ := M.bind_ok q
  obtain ⟨d, h2, q2, q⟩ := M.bind_ok q
  obtain ⟨rfl, rfl⟩ := asBl_ok q2
  cases M.pure_ok q
  refine ⟨ah, F, N, ρ, hs, _, _, G, E, q1, fun F1 H1 v1 x1 G1 r1 => ?_⟩
  cases r1
  exact ⟨d, rfl, k F1 H1 _ x1 G1 (.bl _)⟩
theorem se_neg (h : SE X a ga) : SE X (.UnaryOp .USub a pos) (fun ρ => do
    let x ← ga ρ
    match x with
    | .int i => pure (.int (-i))
    | _ => stuck) := PE.wk (pe_un un_neg h) fun σ H Q ⟨ah, F, N, ρ, hs, p, hs', G, E, q, k⟩ => by
  obtain ⟨x, h1, q1, q⟩ := M.bind_ok q
  cases x <;> first | (cases q; done) | skip
  cases M.pure_ok q
  refine ⟨ah, F, N, ρ, hs, _, _, G, E, q1, fun F1 H1 v1 x1 G1 r1 => ?_⟩
  cases r1
  exact ⟨_, rfl, k F1 H1 _ x1 G1 (.int _)⟩
/-- a if t else b -/
def gIf (t : TM) (ga gb : EM) : EM := fun ρ => do
  let x ← t ρ
  if x = true then ga ρ else gb ρ
theorem se_if (h : ST X c ta) (h1 : SE X a ga) (h2 : SE X b gb) : SE X (.IfExp c a b pos) (gIf ta ga gb) := PE.wk (pe_ifExp h h1 h2) fun σ H Q ⟨ah, F, N, ρ, hs, p, hs', G, E, q, k⟩ => by
  obtain ⟨x, h1, q1, q⟩ := M.bind_ok q
  refine ⟨ah, F, N, ρ, hs, x, h1, G, E, q1, fun F1 H1 x1 G1 => ?_⟩
  cases x with
  | true => exact ⟨ah, F1, N, ρ, h1, p, hs', G1, E.ext G x1, q, fun F2 H2 v x2 G2 r2 => k F2 H2 v (x1.trans G G1 x2) G2 r2⟩
  | false => exact ⟨ah, F1, N, ρ, h1, p, hs', G1, E.ext G x1, q, fun F2 H2 v x2 G2 r2 => k F2 H2 v (x1.trans G G1 x2) G2 r2⟩
/-! ### rows of expressions -/
def gNil : Ev → M (List PV) := fun _ => pure []
def gCons (g : EM) (gs : Ev → M (List PV)) : Ev → M (List PV) := fun ρ => do
  let x ← g ρ
  let xs ← gs ρ
  pure (x :: xs)
theorem sa_nil : SA X [] gNil := PA.wk pa_nil fun σ H Q ⟨ah, F, N, ρ, hs, p, hs', G, E, q, k⟩ => by
  cases M.pure_ok q
  exact k F H _ .refl G .nil
theorem sa_cons (h : SE X e g) (h' : SA X es gs) (hs : starEach (e :: es) X.env = (false, eval e X.env) :: starEach es X.env := by rfl) : SA X (e :: es) (gCons g gs) := PA.wk (pa_cons h h' hs) fun σ H Q ⟨ah, F, N, ρ, hs, p, hs', G, E, q, k⟩ => by
  obtain ⟨x, h1, q1, q⟩ := M.bind_ok q
  obtain ⟨y, h2, q2, q⟩ := M.bind_ok q
  cases M.pure_ok q
  exact ⟨ah, F, N, ρ, hs, x, h1, G, E, q1, fun F1 H1 v1 x1 G1 r1 => ⟨ah, F1, N, ρ, h1, y, _, G1, E.ext G x1, q2, fun F2 H2 v2 x2 G2 r2 => k F2 H2 _ (x1.trans G G1 x2) G2 (.cons (r1.mono (G1.kp x2)) r2)⟩⟩
theorem sab_nil : SAB X [] gNil := PA.wk pa_nil fun σ H Q ⟨ah, F, N, ρ, hs, p, hs', G, E, q, k⟩ => by
  cases M.pure_ok q
  exact k F H _ .refl G .nil
theorem sab_cons (h : SB X e g) (h' : SAB X es gs) (hs : starEach (e :: es) X.env = (false, eval e X.env) :: starEach es X.env := by rfl) : SAB X (e :: es) (gCons g gs) := PA.wk (pa_cons h h' hs) fun σ H Q ⟨ah, F, N, ρ, hs, p, hs', G, E, q, k⟩ => by
  obtain ⟨x, h1, q1, q⟩ := M.bind_ok q
  obtain ⟨y, h2, q2, q⟩ := M.bind_ok q
  cases M.pure_ok q
  exact ⟨ah, F, N, ρ, hs, x, h1, G, E, q1, fun F1 H1 v1 x1 G1 r1 => ⟨ah, F1, N, ρ, h1, y, _, G1, E.ext G x1, q2, fun F2 H2 v2 x2 G2 r2 => k F2 H2 _ (x1.trans G G1 x2) G2 (.cons (r1.ext G1 x2) r2)⟩⟩
def gTup (gs : Ev → M (List PV)) : EM := fun ρ => do
  let xs ← gs ρ
  guardM (xs.length ≤ SZ) (pure (.tup xs))
def gLst (gs : Ev → M (List PV)) : EM := fun ρ => do
  let xs ← gs ρ
  guardM (xs.length ≤ SZ) (pure (.lst xs))
theorem se_tup {k : Nat} (h : SA X es gs) : SE X (.Tuple es k pos) (gTup gs) := PE.wk (pe_tup h) fun σ H Q ⟨ah, F, N, ρ, hs, p, hs', G, E, q, k⟩ => by
  obtain ⟨x, h1, q1, q⟩ := M.bind_ok q
  obtain ⟨hz, q⟩ := guard_ok q
  cases M.pure_ok q
  refine ⟨ah, F, N, ρ, hs, x, _, G, E, q1, fun F1 H1 v1 x1 G1 r1 => ?_⟩
  have z : v1.length ≤ sizeLine := by rw [r1.length, szE]; exact hz
  exact ⟨z, fun a n => new_tup G1 n z r1 fun F2 H2 v x2 G2 r2 => k F2 H2 v (x1.trans G G1 x2) G2 r2⟩
theorem sf_lst (h : SA X es gs) : SF X (.List es pos) (gLst gs) := PE.wk (pe_lst h) fun σ H Q ⟨ah, F, N, ρ, hs, p, hs', G, E, q, k⟩ => by
  obtain ⟨x, h1, q1, q⟩ := M.bind_ok q
  obtain ⟨hz, q⟩ := guard_ok q
  cases M.pure_ok q
  refine ⟨ah, F, N, ρ, hs, x, _, G, E, q1, fun F1 H1 v1 x1 G1 r1 => ?_⟩
  have z : v1.length ≤ sizeLine := by rw [r1.length, szE]; exact hz
  exact ⟨z, fun a n => new_lst G1 n z r1 fun F2 H2 v x2 G2 n2 nf o => k F2 H2 v (x1.trans G G1 x2) G2 (x1.free G n2 (G1.ne n2)) nf o⟩
end
end SL

end
section
namespace SL
open PySem PySem.Spec PyProof.Rows L2
variable [Tbs]
/-! ### subscripts -/
def pIx : PV → PV → M PV
  | .tup l, .int i => liftO (atI l i)
  | .lst l, .int i => liftO (atI l i)
  | .scr l, .int i => liftO ((atI l i).map .int)
  | .ptp l, .int i => liftO (atI l i)
  | .hand, .int i => do
    let h ← get
    liftO (atI h i)
  | _, _ => stuck
theorem atI_reps {K : Fg} {ah : Ax} {F : Addr → Prop} {H : Hp} {vs : List V} {ps : List PV} {i : Int} {p : PV} (r : Reps K ah F H vs ps) (h : atI ps i = some p) : ∃ v, atI vs i = some v ∧ Rep K ah F H v p := by
  unfold atI at h ⊢
  rw [r.length]
  cases e : ixN ps.length i with
  | none => rw [e] at h; cases h
  | some j =>
    rw [e] at h
    exact r.get h
theorem atI_map {α β : Type} {f : α → β} {l : List α} {i : Int} : atI (l.map f) i = (atI l i).map f := by
  unfold atI
  rw [List.length_map]
  cases e : ixN l.length i with
  | none => rfl
  | some j => show (l.map f)[j]? = (l[j]?).map f; rw [List.getElem?_map]
theorem M.get_ok {h : HS} {r : HS × HS} (e : (get : M HS) h = .ok r) : r = (h, h) := by
  have e : Except.ok (h, h) = .ok r := e
  cases e; rfl
theorem ops_ix {X : Cx} : OpS X (rIx X.K) pIx := fun ah F H hs hs' x y p q z Q G c d e k => by
  cases p with
  | tup l =>
    cases q <;> first | (cases e; done) | skip
    obtain ⟨e1, e2⟩ := M.lift_ok e
    cases e2
    obtain ⟨a, vs, rfl, h, _, r⟩ := c.tup
    obtain ⟨v, e3, r3⟩ := atI_reps r e1
    exact .inr (.inl ⟨a, vs, _, v, rfl, d.int, .of h, e3, k F H v .refl G r3⟩)
  | ptp l =>
    cases q <;> first | (cases e; done) | skip
    obtain ⟨e1, e2⟩ := M.lift_ok e
    cases e2
    obtain ⟨a, o, vs, rfl, h, _, _, r⟩ := c.ptp
    obtain ⟨v, e3, r3⟩ := atI_reps r e1
    exact .inr (.inl ⟨a, vs, _, v, rfl, d.int, sqt_ptp h, e3, k F H v .refl G r3⟩)
  | lst l =>
    cases q <;> first | (cases e; done) | skip
    obtain ⟨e1, e2⟩ := M.lift_ok e
    cases e2
    obtain ⟨a, vs, rfl, h, _, r⟩ := c.lst
    obtain ⟨v, e3, r3⟩ := atI_reps r e1
    exact .inl ⟨a, vs, _, v, rfl, d.int, .of h, e3, k F H v .refl G r3⟩
  | scr l =>
    cases q <;> first | (cases e; done) | skip
    obtain ⟨e1, e2⟩ := M.lift_ok e
    cases e2
    obtain ⟨a, rfl, h⟩ := c.scr
    rename_i i
    cases e3 : atI l i with
    | none => rw [e3] at e1; cases e1
    | some j =>
      rw [e3] at e1
      cases e1
      exact .inl ⟨a, _, _, .int j, rfl, d.int, h, by rw [atI_map, e3]; rfl, k F H _ .refl G (.int j)⟩
  | hand =>
    cases q <;> first | (cases e; done) | skip
    obtain ⟨h1, hs1, q1, e⟩ := M.bind_ok e
    cases M.get_ok q1
    obtain ⟨e1, e2⟩ := M.lift_ok e
    cases e2
    obtain ⟨a, vs, rfl, _, h, _, r⟩ := c.hand G
    obtain ⟨v, e3, r3⟩ := atI_reps r e1
    exact .inl ⟨a, vs, _, v, rfl, d.int, .of h, e3, k F H v .refl G r3⟩
  | _ => cases e
section
variable {X : Cx} {e a b c : Expr} {es rest : List Expr} {pos p2 : Pos} {g ga gb gc : EM} {gs : Ev → M (List PV)}
theorem se_ix (ha : SB X a ga) (hb : SB X b gb) (hs : PlainIx b) : SE X (.Subscript a b pos) (gBin pIx ga gb) := PE.wk (pe_ix ix_seq ha hb hs) (bin_w ops_ix)
/-! slices -/
abbrev OM := Ev → M (Option Int)
def tSO (K : Fg) (g : OM) : TO := fun σ H Q => ∃ ah F N ρ hs p hs', GI K ah F H hs ∧ ER K ah F H N σ ρ ∧ g ρ hs = .ok (p, hs') ∧
  ∀ F' H', Ext K ah F H F' H' → GI K ah F' H' hs' → Q p H'
abbrev SO (X : Cx) (e : Option Expr) (g : OM) : Prop := PO X e (tSO X.K g)
theorem PO.wk {X : Cx} {e : Option Expr} {t u : TO} (h : PO X e t) (w : ∀ σ H Q, u σ H Q → t σ H Q) : PO X e u := ⟨fun pins s σ H Q I q => h.run pins s σ H Q I (w σ H Q q)⟩
def oNone : OM := fun _ => pure none
def asInt : PV → M Int
  | .int i => pure i
  | _ => stuck
theorem asInt_ok {p : PV} {hs : HS} {r : Int × HS} (h : asInt p hs = .ok r) : p = .int r.1 ∧ r.2 = hs := by
  cases p <;> first | (cases h; done) | skip
  cases M.pure_ok h
  exact ⟨rfl, rfl⟩
def oSome (g : EM) : OM := fun ρ => do
  let x ← g ρ
  let i ← asInt x
  pure (some i)
theorem so_none : SO X none oNone := PO.wk po_none fun σ H Q ⟨ah, F, N, ρ, hs, p, hs', G, E, q, k⟩ => by
  cases M.pure_ok q
  exact k F H .refl G
theorem so_some (h : SB X e g) : SO X (some e) (oSome g) := PO.wk (po_some h) fun σ H Q ⟨ah, F, N, ρ, hs, p, hs', G, E, q, k⟩ => by
  obtain ⟨x, h1, q1, q⟩ := M.bind_ok q
  obtain ⟨i, h2, q2, q⟩ := M.bind_ok q
  obtain ⟨rfl, rfl⟩ := asInt_ok q2
  cases M.pure_ok q
  refine ⟨ah, F, N, ρ, hs, _, _, G, E, q1, fun F1 H1 v1 x1 G1 r1 => ?_⟩
  exact ⟨_, (r1.con (E.ext G x1)).int, k F1 H1 x1 G1⟩
def cut {α : Type} (xs : List α) (lo hi : Option Int) : List α := (xs.drop (HT.sIx xs.length 0 lo)).take (HT.sIx xs.length xs.length hi - HT.sIx xs.length 0 lo)
def pSl : PV → Option Int → Option Int → M PV
  | .tup l, lo, hi => pure (.tup (cut l lo hi))
  | .lst l, lo, hi => pure (.lst (cut l lo hi))
  | .scr l, lo, hi => pure (.lst ((cut l lo hi).map .int))
  | _, _, _ => stuck
def gSl (g : EM) (lo hi : OM) : EM := fun ρ => do
  let x ← g ρ
  let l ← lo ρ
  let h ← hi ρ
  pSl x l h
theorem cut_reps {K : Fg} {ah : Ax} {F : Addr → Prop} {H : Hp} {vs : List V} {ps : List PV} {lo hi : Option Int} (r : Reps K ah F H vs ps) : Reps K ah F H (cutV vs lo hi) (cut ps lo hi) := by
  unfold cutV cut
  rw [r.length]
  exact (r.drop _).take _
theorem cutV_map {α : Type} (f : α → V) (l : List α) (lo hi : Option Int) : cutV (l.map f) lo hi = (cut l lo hi).map f := by
  unfold cutV cut
  rw [List.length_map, List.map_take, List.map_drop]
theorem sl_w {ah : Ax} {F : Addr → Prop} {H : Hp} {hs hs' : HS} {v : V} {p z : PV} {lo hi : Option Int} {Q : VK} (G : GI X.K ah F H hs) (c : Con X.K ah F H v p) (e : pSl p lo hi hs = .ok (z, hs'))
    (k : ∀ F' H' v, Ext X.K ah F H F' H' → GI X.K ah F' H' hs' → Rep X.K ah F' H' v z → Q v H') : rSlA X.K v lo hi H Q ∨ rSlL X.K v lo hi H Q := by
  cases p with
  | tup l =>
    cases M.pure_ok e
    obtain ⟨a, vs, rfl, h, z, r⟩ := c.tup
    refine .inl ⟨a, vs, rfl, .of h, fun w => ?_, fun _ a n => ?_⟩
    · refine k F H _ .refl G ?_
      have e : cut l lo hi = l := by
        unfold cut
        rw [← r.length, w.1, w.2, Nat.sub_zero, List.drop_zero, r.length, List.take_length]
      rw [e]
      exact .tup h z r
    · exact new_tup G n (Nat.le_trans (cutV_length _ _ _) z) (cut_reps r) k
  | lst l =>
    cases M.pure_ok e
    obtain ⟨a, vs, rfl, h, z, r⟩ := c.lst
    refine .inr ⟨a, vs, rfl, .of h, fun a n => ?_⟩
    refine new_lst (Q := Q) G n (Nat.le_trans (cutV_length _ _ _) z) (cut_reps r) fun F2 H2 b x2 G2 n2 nf o => ?_
    obtain ⟨u, hu⟩ := o.there
    exact k (fun c => F2 c ∨ c = b) H2 (.ref b) ⟨fun c h => .inl (x2.mono c h), fun c h => h.elim (x2.new c) fun e => .inr (e ▸ n2), x2.keep, x2.tbl⟩ (G2.frz hu (G.ne n2)) o.frzn
  | scr l =>
    cases M.pure_ok e
    obtain ⟨a, rfl, h⟩ := c.scr
    refine .inr ⟨a, _, rfl, h, fun a n => ?_⟩
    rw [cutV_map]
    have hz : ((cut l lo hi).map V.int).length ≤ sizeLine := by
      cases c with
      | rep r =>
        cases r with
        | scr _ z =>
          rw [List.length_map]
          refine Nat.le_trans ?_ z
          unfold cut
          rw [List.length_take, List.length_drop]
          omega
      | own o => cases o
    refine new_lst (Q := Q) G n hz (Reps.ints (cut l lo hi)) fun F2 H2 b x2 G2 n2 nf o => ?_
    obtain ⟨u, hu⟩ := o.there
    exact k (fun c => F2 c ∨ c = b) H2 (.ref b) ⟨fun c h => .inl (x2.mono c h), fun c h => h.elim (x2.new c) fun e => .inr (e ▸ n2), x2.keep, x2.tbl⟩ (G2.frz hu (G.ne n2)) o.frzn
  | _ => cases e
theorem se_sl {lo hi : Option Expr} {gl gh : OM} (h : SB X e g) (hl : SO X lo gl) (hh : SO X hi gh) : SE X (.Subscript e (.Slice lo hi none p2) pos) (gSl g gl gh) := PE.wk (pe_slice (sl_tupA.or sl_list) h hl hh) fun σ H Q ⟨ah, F, N, ρ, hs, p, hs', G, E, q, k⟩ => by
  obtain ⟨x, h1, q1, q⟩ := M.bind_ok q
  obtain ⟨l, h2, q2, q⟩ := M.bind_ok q
  obtain ⟨u, h3, q3, q⟩ := M.bind_ok q
  refine ⟨ah, F, N, ρ, hs, x, h1, G, E, q1, fun F1 H1 v1 x1 G1 r1 => ?_⟩
  have E1 := E.ext G x1
  refine ⟨ah, F1, N, ρ, h1, l, h2, G1, E1, q2, fun F2 H2 x2 G2 => ?_⟩
  have E2 := E1.ext G1 x2
  refine ⟨ah, F2, N, ρ, h2, u, h3, G2, E2, q3, fun F3 H3 x3 G3 => ?_⟩
  have E3 := E2.ext G2 x3
  have x13 := (x1.trans G G1 x2).trans G G2 x3
  exact sl_w G3 (((r1.ext G1 x2).ext G2 x3).con E3) q fun F4 H4 v x4 G4 r4 => k F4 H4 v (x13.trans G G3 x4) G4 r4

/-! ### calls of builtins -/
inductive Cons (K : Fg) (ah : Ax) (F : Addr → Prop) (H : Hp) : List V → List PV → Prop
  | nil : Cons K ah F H [] []
  | cons {v : V} {p : PV} {vs : List V} {ps : List PV} : Con K ah F H v p → Cons K ah F H vs ps → Cons K ah F H (v :: vs) (p :: ps)
theorem RepsB.cons' {K : Fg} {ah : Ax} {F N : Addr → Prop} {H : Hp} {σ : L2.St} {ρ : Ev} {vs : List V} {ps : List PV} (E : ER K ah F H N σ ρ) (r : RepsB K ah F H σ ρ vs ps) : Cons K ah F H vs ps := by
  induction r with
  | nil => exact .nil
  | cons r _ ih => exact .cons (r.con E) ih
def CallS (X : Cx) (r : List V → Hp → VK → Prop) (fp : List PV → M PV) : Prop := ∀ (ah : Ax) (F : Addr → Prop) (H : Hp) (hs hs' : HS) (xs : List V) (ps : List PV) (z : PV) (Q : VK), GI X.K ah F H hs → Cons X.K ah F H xs ps → fp ps hs = .ok (z, hs') →
  (∀ F' H' v, Ext X.K ah F H F' H' → GI X.K ah F' H' hs' → Rep X.K ah F' H' v z → Q v H') → r xs H Q
def CallF (X : Cx) (r : List V → Hp → VK → Prop) (fp : List PV → M PV) : Prop := ∀ (ah : Ax) (F : Addr → Prop) (H : Hp) (hs hs' : HS) (xs : List V) (ps : List PV) (z : PV) (Q : VK), GI X.K ah F H hs → Cons X.K ah F H xs ps → fp ps hs = .ok (z, hs') →
  (∀ F' H' a, Ext X.K ah F H F' H' → GI X.K ah F' H' hs' → H a = none → ¬ F' a → Own X.K ah F' H' a z → Q (.ref a) H') → r xs H Q
def gB (fp : List PV → M PV) (gs : Ev → M (List PV)) : EM := fun ρ => do
  let xs ← gs ρ
  fp xs
theorem se_B {r : List V → Hp → VK → Prop} {fp : List PV → M PV} (ho : CallS X r fp) (h : PE X e (tCB r (tSAB X.K gs))) : SE X e (gB fp gs) := PE.wk h fun σ H Q ⟨ah, F, N, ρ, hs, p, hs', G, E, q, k⟩ => by
  obtain ⟨x, h1, q1, q⟩ := M.bind_ok q
  refine ⟨ah, F, N, ρ, hs, x, h1, G, E, q1, fun F1 H1 v1 x1 G1 r1 => ?_⟩
  exact ho ah F1 H1 h1 hs' v1 x p Q G1 (r1.cons' (E.ext G x1)) q fun F2 H2 v x2 G2 r2 => k F2 H2 v (x1.trans G G1 x2) G2 r2
theorem sf_B {r : List V → Hp → VK → Prop} {fp : List PV → M PV} (ho : CallF X r fp) (h : PE X e (tCB r (tSAB X.K gs))) : SF X e (gB fp gs) := PE.wk h fun σ H Q ⟨ah, F, N, ρ, hs, p, hs', G, E, q, k⟩ => by
  obtain ⟨x, h1, q1, q⟩ := M.bind_ok q
  refine ⟨ah, F, N, ρ, hs, x, h1, G, E, q1, fun F1 H1 v1 x1 G1 r1 => ?_⟩
  exact ho ah F1 H1 h1 hs' v1 x p Q G1 (r1.cons' (E.ext G x1)) q fun F2 H2 a x2 G2 n nf o => k F2 H2 a (x1.trans G G1 x2) G2 (x1.free G n (G1.ne n)) nf o

def pLen : List PV → M PV
  | [.tup l] => pure (.int l.length)
  | [.lst l] => pure (.int l.length)
  | [.scr l] => pure (.int l.length)
  | [.ptp l] => pure (.int l.length)
  | _ => stuck
theorem cs_len : CallS X (fun xs H Q => ∃ p ys, xs = [.ref p] ∧ (SqL X.K H p ys ∨ SqT X.K H p ys) ∧ Q (.int ys.length) H) pLen := fun ah F H hs hs' xs ps z Q G c e k => by
  unfold pLen at e
  split at e
  · cases M.pure_ok e
    cases c with | cons c t => cases t; obtain ⟨a, vs, rfl, h, _, r⟩ := c.tup; exact ⟨a, vs, rfl, .inr (.of h), by rw [r.length]; exact k F H _ .refl G (.int _)⟩
  · cases M.pure_ok e
    cases c with | cons c t => cases t; obtain ⟨a, vs, rfl, h, _, r⟩ := c.lst; exact ⟨a, vs, rfl, .inl (.of h), by rw [r.length]; exact k F H _ .refl G (.int _)⟩
  · cases M.pure_ok e
    cases c with | cons c t => cases t; obtain ⟨a, rfl, h⟩ := c.scr; exact ⟨a, _, rfl, .inl h, by rw [List.length_map]; exact k F H _ .refl G (.int _)⟩
  · cases M.pure_ok e
    cases c with | cons c t => cases t; obtain ⟨a, o, vs, rfl, h, _, _, r⟩ := c.ptp; exact ⟨a, vs, rfl, .inr (sqt_ptp h), by rw [r.length]; exact k F H _ .refl G (.int _)⟩
  · cases e
def pAbs : List PV → M PV
  | [.int i] => pure (.int (if i < 0 then -i else i))
  | _ => stuck
theorem cs_abs : CallS X (fun xs H Q => ∃ i, xs = [.int i] ∧ Q (.int (if i < 0 then -i else i)) H) pAbs := fun ah F H hs hs' xs ps z Q G c e k => by
  unfold pAbs at e
  split at e
  · cases M.pure_ok e
    cases c with | cons c t => cases t; rw [c.int]; exact ⟨_, rfl, k F H _ .refl G (.int _)⟩
  · cases e
def pInt : List PV → M PV
  | [.int i] => pure (.int i)
  | [.bl b] => pure (.int (if b then 1 else 0))
  | _ => stuck
theorem cs_int : CallS X (fun xs H Q => (∃ i, xs = [.int i] ∧ Q (.int i) H) ∨ ∃ k, xs = [.bl k] ∧ Q (.int (if k then 1 else 0)) H) pInt := fun ah F H hs hs' xs ps z Q G c e k => by
  unfold pInt at e
  split at e
  · cases M.pure_ok e
    cases c with | cons c t => cases t; rw [c.int]; exact .inl ⟨_, rfl, k F H _ .refl G (.int _)⟩
  · cases M.pure_ok e
    cases c with | cons c t => cases t; rw [c.bl]; exact .inr ⟨_, rfl, k F H _ .refl G (.int _)⟩
  · cases e
def pMax2 : List PV → M PV
  | [.int i, .int j] => pure (.int (if j > i then j else i))
  | _ => stuck
def pMin2 : List PV → M PV
  | [.int i, .int j] => pure (.int (if j < i then j else i))
  | _ => stuck
theorem cs_max2 : CallS X (fun xs H Q => ∃ i j, xs = [.int i, .int j] ∧ Q (.int (if j > i then j else i)) H) pMax2 := fun ah F H hs hs' xs ps z Q G c e k => by
  unfold pMax2 at e
  split at e
  · cases M.pure_ok e
    cases c with | cons c t => cases t with | cons d t => cases t; rw [c.int, d.int]; exact ⟨_, _, rfl, k F H _ .refl G (.int _)⟩
  · cases e
theorem cs_min2 : CallS X (fun xs H Q => ∃ i j, xs = [.int i, .int j] ∧ Q (.int (if j < i then j else i)) H) pMin2 := fun ah F H hs hs' xs ps z Q G c e k => by
  unfold pMin2 at e
  split at e
  · cases M.pure_ok e
    cases c with | cons c t => cases t with | cons d t => cases t; rw [c.int, d.int]; exact ⟨_, _, rfl, k F H _ .refl G (.int _)⟩
  · cases e
def pTuple : List PV → M PV
  | [.tup l] => pure (.tup l)
  | [.lst l] => pure (.tup l)
  | _ => stuck
theorem cs_tuple : CallS X (fun xs H Q => ∃ p ys, xs = [.ref p] ∧ ((SqL X.K H p ys ∧ ∀ l, H l = none → Q (.ref l) (upd H l (.tup ys))) ∨ (SqT X.K H p ys ∧ Q (.ref p) H))) pTuple := fun ah F H hs hs' xs ps z Q G c e k => by
  unfold pTuple at e
  split at e
  · cases M.pure_ok e
    cases c with | cons c t => cases t; obtain ⟨a, vs, rfl, h, z, r⟩ := c.tup; exact ⟨a, vs, rfl, .inr ⟨.of h, k F H _ .refl G (.tup h z r)⟩⟩
  · cases M.pure_ok e
    cases c with | cons c t => cases t; obtain ⟨a, vs, rfl, h, z, r⟩ := c.lst; exact ⟨a, vs, rfl, .inl ⟨.of h, fun l n => new_tup G n z r k⟩⟩
  · cases e
def pList : List PV → M PV
  | [.tup l] => pure (.lst l)
  | [.lst l] => pure (.lst l)
  | _ => stuck
theorem cf_list : CallF X (fun xs H Q => ∃ p ys, xs = [.ref p] ∧ (SqL X.K H p ys ∨ SqT X.K H p ys) ∧ ∀ l, H l = none → Q (.ref l) (upd H l (.lst ys))) pList := fun ah F H hs hs' xs ps z Q G c e k => by
  unfold pList at e
  split at e
  · cases M.pure_ok e
    cases c with | cons c t => cases t; obtain ⟨a, vs, rfl, h, z, r⟩ := c.tup; exact ⟨a, vs, rfl, .inr (.of h), fun l n => new_lst G n z r k⟩
  · cases M.pure_ok e
    cases c with | cons c t => cases t; obtain ⟨a, vs, rfl, h, z, r⟩ := c.lst; exact ⟨a, vs, rfl, .inl (.of h), fun l n => new_lst G n z r k⟩
  · cases e
/-- all, any of a list of truth values -/
def bls? : List PV → Option (List Bool)
  | [] => some []
  | .bl i :: r => (bls? r).map (i :: ·)
  | _ => none
theorem bls?_eq : ∀ {ps : List PV} {ns : List Bool}, bls? ps = some ns → ps = ns.map PV.bl
  | [], _, h => by cases h; rfl
  | p :: r, ns, h => by
    cases p with
    | bl i =>
      have h : (bls? r).map (i :: ·) = some ns := h
      cases e : bls? r with
      | none => rw [e] at h; cases h
      | some ms =>
        rw [e] at h; cases h
        rw [bls?_eq e]; rfl
    | _ => cases h
theorem Reps.bls_of {K : Fg} {ah : Ax} {F : Addr → Prop} {H : Hp} : ∀ {vs : List V} {ns : List Bool}, Reps K ah F H vs (ns.map PV.bl) → vs = ns.map V.bl
  | _, [], .nil => rfl
  | _, n :: r, .cons h t => by
    cases h
    rw [Reps.bls_of t]; rfl
def pAll : List PV → M PV
  | [.lst l] => do
    let bs ← liftO (bls? l)
    pure (.bl (bs.all id))
  | _ => stuck
def pAny : List PV → M PV
  | [.lst l] => do
    let bs ← liftO (bls? l)
    pure (.bl (bs.any id))
  | _ => stuck
theorem cs_all : CallS X (rAll X.K) pAll := fun ah F H hs hs' xs ps z Q G c e k => by
  unfold pAll at e
  split at e
  · obtain ⟨bs, h1, q1, e'⟩ := M.bind_ok e
    obtain ⟨e1, e2⟩ := M.lift_ok q1
    cases e2
    cases M.pure_ok e'
    rw [bls?_eq e1] at c
    cases c with | cons c t => cases t; obtain ⟨a, vs, rfl, h, z, r⟩ := c.lst; rw [r.bls_of] at h; exact ⟨a, _, rfl, .of h, k F H _ .refl G (.bl _)⟩
  · cases e
theorem cs_any : CallS X (rAny X.K) pAny := fun ah F H hs hs' xs ps z Q G c e k => by
  unfold pAny at e
  split at e
  · obtain ⟨bs, h1, q1, e'⟩ := M.bind_ok e
    obtain ⟨e1, e2⟩ := M.lift_ok q1
    cases e2
    cases M.pure_ok e'
    rw [bls?_eq e1] at c
    cases c with | cons c t => cases t; obtain ⟨a, vs, rfl, h, z, r⟩ := c.lst; rw [r.bls_of] at h; exact ⟨a, _, rfl, .of h, k F H _ .refl G (.bl _)⟩
  · cases e
def pSum : List PV → M PV
  | [.lst l] => do
    let bs ← liftO (ints? l)
    pure (.int bs.sum)
  | _ => stuck
theorem cs_sum : CallS X (rSum X.K) pSum := fun ah F H hs hs' xs ps z Q G c e k => by
  unfold pSum at e
  split at e
  · obtain ⟨bs, h1, q1, e'⟩ := M.bind_ok e
    obtain ⟨e1, e2⟩ := M.lift_ok q1
    cases e2
    cases M.pure_ok e'
    rw [ints?_eq e1] at c
    cases c with | cons c t => cases t; obtain ⟨a, vs, rfl, h, z, r⟩ := c.lst; rw [r.ints_of] at h; exact ⟨a, _, rfl, .of h, k F H _ .refl G (.int _)⟩
  · cases e
/-! ### isinstance -/
inductive Cl where
  | int | bool | str | tuple | list | dict
def Cl.name : Cl → String
  | .int => "int" | .bool => "bool" | .str => "str" | .tuple => "tuple" | .list => "list" | .dict => "dict"
def tyN : PV → Option String
  | .non => some "NoneType"
  | .bl _ => some "bool"
  | .int _ => some "int"
  | .str _ => some "str"
  | .tup _ => some "tuple"
  | .lst _ => some "list"
  | .dK _ => some "dict"
  | .dT _ => some "dict"
  | .ptp _ => some "tuple"
  | _ => none
def isA : Cl → PV → Bool
  | .int, .int _ => true
  | .int, .bl _ => true
  | .bool, .bl _ => true
  | .str, .str _ => true
  | .tuple, .tup _ => true
  | .tuple, .ptp _ => true
  | .list, .lst _ => true
  | .dict, .dK _ => true
  | .dict, .dT _ => true
  | _, _ => false
theorem kit_isA {c : Cl} {p : PV} {n : String} (h : tyN p = some n) : kitB n c.name = some (isA c p) := by
  cases p <;> cases h <;> cases c <;> first | (show kitB _ _ = some true; decide +kernel) | (show kitB _ _ = some false; decide +kernel)
theorem tyX_con {K : Fg} {ah : Ax} {F : Addr → Prop} {H : Hp} {v : V} {p : PV} {n : String} (c : Con K ah F H v p) (h : tyN p = some n) : TyX K H v (.type n) := by
  cases c with
  | rep r =>
    cases r with
    | non => cases h; exact .base .non
    | bl b => cases h; exact .base (.bl b)
    | int b => cases h; exact .base (.int b)
    | str b => cases h; exact .base (.str b)
    | tup s z r => cases h; exact .base (.tup s)
    | ptp s d z r => cases h; exact .fTuple s
    | lst f s z r => cases h; exact .base (.lst s)
    | dK f s z e r => cases h; exact .base (.dK s)
    | dT f s z e r => cases h; exact .base (.dT s)
    | _ => cases h
  | own o =>
    cases o with
    | lst s z r => cases h; exact .base (.lst s)
    | dK s z e r => cases h; exact .base (.dK s)
    | dT s z e r => cases h; exact .base (.dT s)
def isiP (cs : List Cl) : PV → M PV
  | .ty _ => stuck
  | .hand => stuck
  | .scr _ => stuck
  | .lam _ => stuck
  | .fn _ => stuck
  | .exc _ => stuck
  | .exd _ _ => stuck
  | x => pure (.bl (cs.any fun c => isA c x))
def gIsi (cs : List Cl) (g : EM) : EM := fun ρ => do
  let x ← g ρ
  isiP cs x
theorem isiP_ok {cs : List Cl} {x : PV} {hs : HS} {r : PV × HS} (h : isiP cs x hs = .ok r) : (∃ n, tyN x = some n) ∧ r = (.bl (cs.any fun c => isA c x), hs) := by
  cases x <;> first | (cases h; done) | exact ⟨⟨_, rfl⟩, M.pure_ok h⟩
theorem se_isi {c : Cl} {p pos : Pos} (ha : SB X a g) (hc : PE X b (tC (.ty c.name))) (hm : X.mg "isinstance" = none) (hg : Gl X "isinstance" := by rfl) (h1 : starEach [a, b] X.env = (false, eval a X.env) :: starEach [b] X.env := by rfl) (h2 : starEach [b] X.env = (false, eval b X.env) :: starEach [] X.env := by rfl)
    (hpl : (backTo pos (starEach [b] X.env)).any (·.1) = false := by rfl) : SE X (.Call (.Name "isinstance" p) [a, b] [] pos) (gIsi [c] g) := PE.wk (pe_callB call_isi hg hm (by decide +kernel) (pa_cons ha (pa_cons hc pa_nil h2) h1) (by decide) (by decide) h1 hpl) fun σ H Q ⟨ah, F, N, ρ, hs, p, hs', G, E, q, k⟩ => by
  obtain ⟨x, h1, q1, q⟩ := M.bind_ok q
  obtain ⟨⟨n, hn⟩, q⟩ := isiP_ok q
  cases q
  refine ⟨ah, F, N, ρ, hs, x, _, G, E, q1, fun F1 H1 v1 x1 G1 r1 => ?_⟩
  refine ⟨v1, _, _, _, _, rfl, .ty _, tyX_con (r1.con (E.ext G x1)) hn, kit_ty (kit_isA hn), ?_⟩
  have := k F1 H1 _ x1 G1 (.bl _)
  simpa using this
theorem kit_any {K : Fg} {p : PV} {n : String} (h : tyN p = some n) : ∀ cs : List Cl, PySem.W.kitAny K (.type n) (cs.map fun c => Value.type c.name) = some (cs.any fun c => isA c p)
  | [] => kitAny_nil
  | c :: cs => by
    refine kitAny_cons (b := isA c p) (kit_ty (kit_isA h)) (fun e => ?_) fun e => ?_
    · rw [List.any_cons, e, Bool.false_or]; exact kit_any h cs
    · rw [List.any_cons, e, Bool.true_or]
/-- isinstance(x, (T1, T2)) -/
theorem se_isi2 {c1 c2 : Cl} {b1 b2 : Expr} {kk : Nat} {p pos pt : Pos} (ha : SB X a g) (hc1 : PE X b1 (tC (.ty c1.name))) (hc2 : PE X b2 (tC (.ty c2.name))) (hm : X.mg "isinstance" = none) (hg : Gl X "isinstance" := by rfl)
    (h1 : starEach [a, .Tuple [b1, b2] kk pt] X.env = (false, eval a X.env) :: starEach [.Tuple [b1, b2] kk pt] X.env := by rfl) (h3 : starEach [b1, b2] X.env = (false, eval b1 X.env) :: starEach [b2] X.env := by rfl) (h4 : starEach [b2] X.env = (false, eval b2 X.env) :: starEach [] X.env := by rfl)
    (hpl : (backTo pos (starEach [.Tuple [b1, b2] kk pt] X.env)).any (·.1) = false := by rfl) : SE X (.Call (.Name "isinstance" p) [a, .Tuple [b1, b2] kk pt] [] pos) (gIsi [c1, c2] g) :=
  PE.wk (pe_callB call_isiT hg hm (by decide +kernel) (pa_cons ha (pa_cons (pe_tup (pa_cons hc1 (pa_cons hc2 pa_nil h4) h3)) pa_nil rfl) h1) (by decide) (by decide) h1 hpl) fun σ H Q ⟨ah, F, N, ρ, hs, p, hs', G, E, q, k⟩ => by
  obtain ⟨x, h1, q1, q⟩ := M.bind_ok q
  obtain ⟨⟨n, hn⟩, q⟩ := isiP_ok q
  cases q
  refine ⟨ah, F, N, ρ, hs, x, _, G, E, q1, fun F1 H1 v1 x1 G1 r1 => ?_⟩
  refine ⟨by rw [szE]; show 2 ≤ SZ; decide, fun a na => ?_⟩
  have x2 : Ext X.K ah F1 H1 F1 (upd H1 a (.tup [.ty c1.name, .ty c2.name])) := .laid na
  have G2 := G1.laid (o := .tup [.ty c1.name, .ty c2.name]) na
  refine ⟨v1, a, _, _, _, _, rfl, upd_same, .cons (.ty _) (.cons (.ty _) .nil), tyX_con ((r1.ext G1 x2).con ((E.ext G x1).ext G1 x2)) hn, kit_any hn [c1, c2], ?_⟩
  exact k F1 _ _ (x1.trans G G1 x2) G2 (.bl _)
end
end SL

end
section
/-! SLeg: promises of defs that also know that no repr is under way -/
namespace SL
open PySem PySem.Spec PyProof.Rows L2
/-- room, and no guard is set -/
structure Room (k : Nat) (A : Around) : Prop where
  rm : L2.Room k A
  gd : A.guards = some []
theorem Room.mono {j k : Nat} {A : Around} (r : Room k A) (h : j ≤ k) : Room j A := ⟨r.rm.mono h, r.gd⟩
theorem Room.deeper {k : Nat} {A : Around} (r : Room (k + 1) A) (env : Env) : Room k (A.deeper env) := ⟨r.rm.deeper env, r.gd⟩
theorem Room.depth {k : Nat} {A : Around} (r : Room k A) : A.depth < recursionLimit := r.rm.depth
theorem Room.hd {k : Nat} {A : Around} (r : Room k A) : A.handled = none := r.rm.hd
theorem Room.units {k : Nat} {A : Around} (r : Room k A) : A.units + 64 < cLine := r.rm.units
theorem Room.units0 {k : Nat} {A : Around} (r : Room k A) : A.units < cLine := r.rm.units0
structure FnOk (P : Program) (w : World) (K : Fg) (mg : Str → Option Value) (base : Heap) (CX : CXT) (k : Nat) (f : Addr) (fd : FuncData) (ps : List Str) (sp : Sp) : Prop where
  len : ∀ vs H Q E, sp vs H Q E → vs.length = ps.length
  run : ∀ (A : Around) (outer : List Env) (s : Shared) (H : Hp) (args : Args) (us : List Value) (vs : List V) (Q : VK) (E : XK), Room k A → Env0 P w K mg base A outer s H → BindsTo s fd args (ps.zip us) → Vals vs us → sp vs H Q E →
    codeAny (model P w) A (.call (.ref f) args) (CR CX outer P w H s Q E) s
theorem FnOk.mono {P : Program} {w : World} {K : Fg} {mg : Str → Option Value} {base : Heap} {CX : CXT} {j k : Nat} {f : Addr} {fd : FuncData} {ps : List Str} {sp : Sp} (F : FnOk P w K mg base CX j f fd ps sp) (h : j ≤ k) : FnOk P w K mg base CX k f fd ps sp :=
  ⟨F.len, fun A outer s H args us vs Q E hr => F.run A outer s H args us vs Q E (hr.mono h)⟩
section
variable {X : Cx} {CX : CXT} {k : Nat} {f : Addr} {fd : FuncData} {ps : List Str} {sp : Sp} {x : Str} {p pos : Pos} {e : Expr} {es : List Expr} {t : TA}
/-- a def that is called: what is let out is asked at the slots -/
theorem run_fnS {E : L2.St → XK} {pins : List (Addr × Obj)} {σ : L2.St} {H : Hp} {s : Shared} {Q : VK} {us : List Value} {vs : List V} (F : FnOk X.prog X.w X.K X.mg X.base CX k f fd ps sp) (hr : Room k X.A) (hb : Binds X.K fd ps []) (hx : PassesAt CX X σ (E σ))
    (I : Inv X pins σ H s) (r : Vals vs us) (h : sp vs H Q (E σ)) : wpAny (model X.prog X.w) X.A (call (.ref f) us) (EP X pins σ Q) X.xe s := by
  have b := hb s us I.kIn (by rw [List.append_nil, ← r.length]; exact F.len _ _ _ _ h)
  rw [List.append_nil] at b
  refine wpAny_call (codeAny_mono (F.run X.A X.stack s H ⟨us, []⟩ us vs Q (E σ) hr I.env0 b r h) fun g s' hq => ?_)
  match g, hq with
  | .error e, hq => exact hx pins H s e s' I hq
  | .ok (.ret u), hq => exact I.after hq
  | .ok .next, hq | .ok .brk, hq | .ok .cont, hq => exact hq.elim
theorem pe_callS {E : L2.St → XK} (F : FnOk X.prog X.w X.K X.mg X.base CX k f fd ps sp) (hr : Room k X.A) (hg : Gl X x) (hm : X.mg x = some (.ref f)) (hk : PySem.W.keepIn X.K (.ref f) = true) (hb : Binds X.K fd ps []) (hx : ∀ σ, PassesAt CX X σ (E σ))
    (ha : PA X (e :: es) t) (hdb : (x == ("__debug__" : Str)) = false := by decide) (he : starEach (e :: es) X.env = (false, eval e X.env) :: starEach es X.env := by rfl) (hpl : (backTo pos (starEach es X.env)).any (·.1) = false := by rfl) :
    PE X (.Call (.Name x p) (e :: es) [] pos) (tCallS sp E t) := by
  refine ⟨fun pins s σ H Q I h => wpAny_Call_Name_kw (ld_glob I hg hm ?_ hdb)⟩
  refine PySem.W.callWith_K (h₀ := X.base) I.ok.mod.kin hk (thn (ha.run pos pins s σ H _ I h) fun us s1 hh => ?_) he hpl
  obtain ⟨vs, H1, I1, r, q⟩ := hh
  exact ⟨I1.kIn, run_fnS F hr hb (hx σ) I1 r q⟩
theorem pe_call {E : XK} (F : FnOk X.prog X.w X.K X.mg X.base CX k f fd ps sp) (hr : Room k X.A) (hg : Gl X x) (hm : X.mg x = some (.ref f)) (hk : PySem.W.keepIn X.K (.ref f) = true) (hb : Binds X.K fd ps []) (hx : Passes CX X E)
    (ha : PA X (e :: es) t) (hdb : (x == ("__debug__" : Str)) = false := by decide) (he : starEach (e :: es) X.env = (false, eval e X.env) :: starEach es X.env := by rfl) (hpl : (backTo pos (starEach es X.env)).any (·.1) = false := by rfl) :
    PE X (.Call (.Name x p) (e :: es) [] pos) (tCallS sp (fun _ => E) t) := pe_callS F hr hg hm hk hb (fun σ pins H s e s' I c => hx pins σ H s e s' I c) ha hdb he hpl
theorem pe_call0 {E : XK} (F : FnOk X.prog X.w X.K X.mg X.base CX k f fd ps sp) (hr : Room k X.A) (hg : Gl X x) (hm : X.mg x = some (.ref f)) (hk : PySem.W.keepIn X.K (.ref f) = true) (hb : Binds X.K fd ps []) (hx : Passes CX X E)
    (hdb : (x == ("__debug__" : Str)) = false := by decide) : PE X (.Call (.Name x p) [] [] pos) (fun _ H Q => sp [] H Q E) := by
  refine ⟨fun pins s σ H Q I h => wpAny_Call_Name_kw (ld_glob I hg hm ?_ hdb)⟩
  exact PySem.W.callWith_K0 I.kIn hk (run_fnS (us := []) (E := fun _ => E) F hr hb (fun pins H s e s' I c => hx pins σ H s e s' I c) I .nil h)
end
section
variable {CX : CXT} {P : Program} {w : World} {K : Fg} {mg : Str → Option Value} {base : Heap}
/-- a def by its body -/
theorem fn_of {k : Nat} {f : Addr} {name qual : Str} {params : Arguments} {body : List Stmt} {scope : Scope} {dV kV doc pm cdv ct oc : Value} {an od : Option Addr}
    {osl : Array (Option Value)} {N ps : List Str} {sp : Sp} (lk : K.lookup f = some ⟨oc, od, .func (PySem.W.fnOf name qual params body scope dV kV doc pm an cdv ct), osl⟩) (hcd : PySem.W.codeIn K cdv qual = true) (S : FnScope N ps scope)
    (len : ∀ vs H Q E, sp vs H Q E → vs.length = ps.length)
    (hbody : ∀ (A : Around) (outer : List Env) (s : Shared) (H : Hp) (vs : List V) (Q : VK) (E : XK), Room k (A.deeper (envOfC qual scope s.heap.objs.size f cdv)) → sp vs H Q E →
      ∃ t, PSs (cxOf CX P w K mg base N qual scope f cdv A outer s H E) body t ∧ t { nx := fun _ H' => Q .non H', rt := Q } (L2.start N vs) H) :
    FnOk P w K mg base CX (k + 1) f (PySem.W.fnOf name qual params body scope dV kV doc pm an cdv ct) ps sp := by
  exact ⟨len, fun A outer s H args us vs Q E hr e0 hb r hsp => LamX.run_ofS lk hcd S hr.rm e0 hb r (len _ _ _ _ hsp) fun _ => hbody A outer s H vs Q E (hr.deeper _) hsp⟩
theorem okF {x qual : Str} {st : Stmt} {f : Addr} {fd : FuncData} {N ps : List Str} {k : Nat} {sp : Sp} (F : Fun K x qual st f fd) (S : FnScope N ps (defScope st)) (len : ∀ vs H Q E, sp vs H Q E → vs.length = ps.length)
    (hbody : ∀ (cdv : Value) (A : Around) (outer : List Env) (s : Shared) (H : Hp) (vs : List V) (Q : VK) (E : XK), Room k (A.deeper (envOfC qual (defScope st) s.heap.objs.size f cdv)) → sp vs H Q E →
      ∃ t, PSs (cxOf CX0 P w K mg base N qual (defScope st) f cdv A outer s H E).nox (defBody st) t ∧ t { nx := fun _ H' => Q .non H', rt := Q } (L2.start N vs) H) : FnOk P w K mg base CX0 (k + 1) f fd ps sp := by
  obtain ⟨oc, od, kV, doc, pm, an, cdv, ct, osl, rfl, lk, hcd⟩ := F.ex
  exact fn_of lk hcd S len fun A outer s H vs Q E hr hsp => (hbody cdv A outer s H vs Q E hr hsp).imp fun t h => ⟨h.1.nox, h.2⟩
theorem okXF {x qual : Str} {st : Stmt} {f : Addr} {fd : FuncData} {N ps : List Str} {k : Nat} {sp : Sp} (F : Fun K x qual st f fd) (S : FnScope N ps (defScope st)) (len : ∀ vs H Q E, sp vs H Q E → vs.length = ps.length)
    (hbody : ∀ (cdv : Value) (A : Around) (outer : List Env) (s : Shared) (H : Hp) (vs : List V) (Q : VK) (E : XK), Room k (A.deeper (envOfC qual (defScope st) s.heap.objs.size f cdv)) → sp vs H Q E →
      ∃ t, PSs (cxOf (L2.CX P w) P w K mg base N qual (defScope st) f cdv A outer s H E) (defBody st) t ∧ t { nx := fun _ H' => Q .non H', rt := Q } (L2.start N vs) H) : FnOk P w K mg base (L2.CX P w) (k + 1) f fd ps sp := by
  obtain ⟨oc, od, kV, doc, pm, an, cdv, ct, osl, rfl, lk, hcd⟩ := F.ex
  exact fn_of lk hcd S len fun A outer s H vs Q E hr hsp => hbody cdv A outer s H vs Q E hr hsp
end
end SL

end
section
namespace SL
open PySem PySem.Spec PyProof.Rows L2
variable [Tbs]
/-! ### defs -/
def spM (K : Fg) (n : Nat) (m : List PV → M PV) : Sp := fun vs H Q _ => vs.length = n ∧ ∃ ah F ps hs p hs', GI K ah F H hs ∧ Reps K ah F H vs ps ∧ m ps hs = .ok (p, hs') ∧
  ∀ F' H' v, Ext K ah F H F' H' → GI K ah F' H' hs' → Rep K ah F' H' v p → Q v H'
/-- a def that the walk knows: by its name, n parameters, level k, the mirror m -/
def Known (P : Program) (w : World) (K : Fg) (mg : Str → Option Value) (base : Heap) (x : Str) (n k : Nat) (m : List PV → M PV) : Prop :=
  ∃ f fd ps, mg x = some (.ref f) ∧ PySem.W.keepIn K (.ref f) = true ∧ L2.Binds K fd ps [] ∧ FnOk P w K mg base CX0 k f fd ps (spM K n m)
section
variable {X : Cx} {e a b c : Expr} {es rest : List Expr} {p pos : Pos} {g ga gb gc : EM} {gs : Ev → M (List PV)} {x : Str} {n k : Nat} {m : List PV → M PV}
theorem len_sa (h : Nat → Prop) {ah : Ax} {F : Addr → Prop} {H : Hp} {vs : List V} {ps : List PV} (r : Reps X.K ah F H vs ps) : vs.length = ps.length := r.length
theorem se_call (h : Known X.prog X.w X.K X.mg X.base x n k m) (hr : Room k X.A) (ha : SA X (e :: es) gs) (hn : ∀ ρ hs ps hs', gs ρ hs = .ok (ps, hs') → ps.length = n) (hg : Gl X x := by rfl) (hdb : (x == ("__debug__" : Str)) = false := by decide)
    (he : starEach (e :: es) X.env = (false, eval e X.env) :: starEach es X.env := by rfl) (hpl : (backTo pos (starEach es X.env)).any (·.1) = false := by rfl) : SE X (.Call (.Name x p) (e :: es) [] pos) (gB m gs) := by
  obtain ⟨f, fd, ps, hm, hk, hb, F⟩ := h
  refine PE.wk (pe_call F hr hg hm hk hb pass0 ha hdb he hpl) fun σ H Q ⟨ah, F, N, ρ, hs, p, hs', G, E, q, k⟩ => ?_
  obtain ⟨x, h1, q1, q⟩ := M.bind_ok q
  refine ⟨ah, F, N, ρ, hs, x, h1, G, E, q1, fun F1 H1 v1 x1 G1 r1 => ?_⟩
  refine ⟨?_, ah, F1, x, h1, p, hs', G1, ?_, q, fun F2 H2 v x2 G2 r2 => k F2 H2 v (x1.trans G G1 x2) G2 r2⟩
  · rw [r1.length]; exact hn _ _ _ _ q1
  · exact r1
theorem se_call0 (h : Known X.prog X.w X.K X.mg X.base x 0 k m) (hr : Room k X.A) (hg : Gl X x := by rfl) (hdb : (x == ("__debug__" : Str)) = false := by decide) : SE X (.Call (.Name x p) [] [] pos) (fun _ => m []) := by
  obtain ⟨f, fd, ps, hm, hk, hb, F⟩ := h
  refine PE.wk (pe_call0 F hr hg hm hk hb pass0 hdb) fun σ H Q ⟨ah, F, N, ρ, hs, p, hs', G, E, q, k⟩ => ?_
  exact ⟨rfl, ah, F, [], hs, p, hs', G, .nil, q, k⟩
/-- how many a row of expressions gives -/
def Rows (gs : Ev → M (List PV)) (n : Nat) : Prop := ∀ ρ hs ps hs', gs ρ hs = .ok (ps, hs') → ps.length = n
theorem rows_nil : Rows gNil 0 := fun _ _ _ _ q => by cases M.pure_ok q; rfl
theorem rows_cons (h : Rows gs n) : Rows (gCons g gs) (n + 1) := fun _ _ _ _ q => by
  obtain ⟨x, h1, q1, q⟩ := M.bind_ok q
  obtain ⟨y, h2, q2, q⟩ := M.bind_ok q
  cases M.pure_ok q
  exact congrArg (· + 1) (h _ _ _ _ q2)
end

/-! ### targets -/
abbrev GM := PV → Ev → M Ev
abbrev GMs := List PV → Ev → M Ev
def tSG (K : Fg) (g : GM) (is : List Nat) : TG := fun v σ H Q => ∃ ah F N ρ hs p ρ' hs', GI K ah F H hs ∧ ER K ah F H N σ ρ ∧ Rep K ah F H v p ∧ g p ρ hs = .ok (ρ', hs') ∧
  ∀ σ', ER K ah F H N σ' ρ' → (∀ vs : List Nat, (∀ i ∈ is, i ∈ vs) → L2.wipe σ' vs = L2.wipe σ vs) → hs' = hs → Q σ' H
def tSGs (K : Fg) (g : GMs) (is : List Nat) : TGs := fun v σ H Q => ∃ ah F N ρ hs p ρ' hs', GI K ah F H hs ∧ ER K ah F H N σ ρ ∧ Reps K ah F H v p ∧ g p ρ hs = .ok (ρ', hs') ∧
  ∀ σ', ER K ah F H N σ' ρ' → (∀ vs : List Nat, (∀ i ∈ is, i ∈ vs) → L2.wipe σ' vs = L2.wipe σ vs) → hs' = hs → Q σ' H
abbrev SG (X : Cx) (e : Expr) (g : GM) (is : List Nat) : Prop := PG X e (tSG X.K g is)
abbrev SGs (X : Cx) (e : List Expr) (g : GMs) (is : List Nat) : Prop := PGs X e (tSGs X.K g is)
theorem PG.wk {X : Cx} {e : Expr} {t u : TG} (h : PG X e t) (w : ∀ v σ H Q, u v σ H Q → t v σ H Q) : PG X e u := ⟨fun pins s σ H v x Q I r q => h.run pins s σ H v x Q I r (w v σ H Q q)⟩
theorem PGs.wk {X : Cx} {e : List Expr} {t u : TGs} (h : PGs X e t) (w : ∀ v σ H Q, u v σ H Q → t v σ H Q) : PGs X e u := ⟨fun pins s σ H v x Q I r q => h.run pins s σ H v x Q I r (w v σ H Q q)⟩
def tgName (i : Nat) : GM := fun p ρ => pure (ρ.set i (.fz p))
theorem wipe_set {σ : L2.St} {i : Nat} {v : Option V} : ∀ {vs : List Nat}, i ∈ vs → L2.wipe (σ.set i v) vs = L2.wipe σ vs
  | j :: vs, h => by
    show (L2.wipe (σ.set i v) vs).set j none = (L2.wipe σ vs).set j none
    by_cases hj : i ∈ vs
    · rw [wipe_set hj]
    · have e : j = i := by
        rcases List.mem_cons.mp h with e | e
        · exact e.symm
        · exact absurd e hj
      subst e
      have : ∀ (σ : L2.St) (vs : List Nat), j ∉ vs → L2.wipe (σ.set j v) vs = (L2.wipe σ vs).set j v := by
        intro σ vs
        induction vs with
        | nil => intro _; rfl
        | cons k vs ih =>
          intro hk
          show (L2.wipe (σ.set j v) vs).set k none = ((L2.wipe σ vs).set k none).set j v
          rw [ih (fun z => hk (List.mem_cons_of_mem _ z)), List.set_comm]
          exact fun z => hk (z ▸ List.mem_cons_self)
      rw [this σ vs hj, List.set_set]
theorem sg_name {X : Cx} {i : Nat} {x : Str} {pos : Pos} (h : PG X (.Name x pos) (gName i)) : SG X (.Name x pos) (tgName i) [i] := PG.wk h fun v σ H Q ⟨ah, F, N, ρ, hs, p, ρ', hs', G, E, r, q, k⟩ => by
  cases M.pure_ok q
  exact k _ (E.setF r) (fun vs h => wipe_set (h i List.mem_cons_self)) rfl
def tgNil : GMs := fun ps ρ => match ps with
  | [] => pure ρ
  | _ => stuck
def tgCons (g : GM) (gs : GMs) : GMs := fun ps ρ => match ps with
  | p :: ps => do
    let ρ1 ← g p ρ
    gs ps ρ1
  | _ => stuck
theorem sgs_nil {X : Cx} : SGs X [] tgNil [] := PGs.wk pgs_nil fun v σ H Q ⟨ah, F, N, ρ, hs, p, ρ', hs', G, E, r, q, k⟩ => by
  cases r with
  | nil =>
    cases M.pure_ok q
    exact ⟨rfl, k _ E (fun _ _ => rfl) rfl⟩
  | cons => cases q
theorem sgs_cons {X : Cx} {e : Expr} {es : List Expr} {g : GM} {gs : GMs} {i1 i2 : List Nat} (h1 : SG X e g i1) (h2 : SGs X es gs i2) (hs : (assignEach (e :: es) X.env).map (·.2) = assign e X.env :: (assignEach es X.env).map (·.2) := by rfl) : SGs X (e :: es) (tgCons g gs) (i1 ++ i2) :=
  PGs.wk (pgs_cons h1 h2 hs) fun v σ H Q ⟨ah, F, N, ρ, hs, p, ρ', hs', G, E, r, q, k⟩ => by
    cases r with
    | nil => cases q
    | cons r rs =>
      obtain ⟨ρ1, h1, q1, q2⟩ := M.bind_ok q
      refine ⟨_, _, rfl, ah, F, N, ρ, hs, _, ρ1, h1, G, E, r, q1, fun σ1 E1 w1 e1 => ?_⟩
      subst e1
      refine ⟨ah, F, N, ρ1, _, _, ρ', hs', G, E1, rs, q2, fun σ2 E2 w2 e2 => ?_⟩
      exact k σ2 E2 (fun vs h => (w2 vs fun i hi => h i (List.mem_append_right _ hi)).trans (w1 vs fun i hi => h i (List.mem_append_left _ hi))) e2
def tgTup (n : Nat) (gs : GMs) : GM := fun p ρ => match p with
  | .tup l => guardM (l.length = n) (gs l ρ)
  | _ => stuck
theorem sg_tup {X : Cx} {es : List Expr} {k n : Nat} {pos : Pos} {gs : GMs} {is : List Nat} (hc : X.calm = true) (h : SGs X es gs is) (hn : (assignEach es X.env).length = n := by rfl) (hst : (assignEach es X.env).findIdx? (·.1) = none := by rfl) : SG X (.Tuple es k pos) (tgTup n gs) is :=
  PG.wk (pg_tup hc h hn hst) fun v σ H Q ⟨ah, F, N, ρ, hs, p, ρ', hs', G, E, r, q, k⟩ => by
    cases p <;> first | (cases q; done) | skip
    obtain ⟨e, q⟩ := guard_ok q
    cases r with
    | tup hq z r => exact ⟨_, _, rfl, .of hq, r.length.trans e, ah, F, N, ρ, hs, _, ρ', hs', G, E, r, q, k⟩

/-! ### walks -/
abbrev IM := Ev → M (List PV)
structure ItW (K : Fg) (ah : Ax) (F : Addr → Prop) (H : Hp) (J : It) (ps : List PV) : Prop where
  goes : ∀ i F1 H1, Kp K F H F1 H1 → i < ps.length → J.go i H1
  stops : ∀ F1 H1, Kp K F H F1 H1 → J.stop ps.length H1
  yields : ∀ i F1 H1 hs x H2, Kp K F H F1 H1 → GI K ah F1 H1 hs → i < ps.length → J.yld i H1 x H2 → ∃ p, ps[i]? = some p ∧ Ext K ah F1 H1 F1 H2 ∧ GI K ah F1 H2 hs ∧ Rep K ah F1 H2 x p
def tSI (K : Fg) (g : IM) : TI := fun σ H R => ∃ ah F N ρ hs ps hs', GI K ah F H hs ∧ ER K ah F H N σ ρ ∧ g ρ hs = .ok (ps, hs') ∧
  ∀ F' H' J, Ext K ah F H F' H' → GI K ah F' H' hs' → ItW K ah F' H' J ps → ps.length ≤ sizeLine → R J H'
abbrev SI (X : Cx) (tg e : Expr) (g : IM) : Prop := PI X tg e (tSI X.K g)
theorem PI.wk {X : Cx} {tg e : Expr} {t u : TI} (h : PI X tg e t) (w : ∀ σ H Q, u σ H Q → t σ H Q) : PI X tg e u := ⟨fun pins s σ H Q I q => h.run pins s σ H Q I (w σ H Q q)⟩
section
variable {K : Fg} {ah : Ax} {F : Addr → Prop} {H : Hp} {a : Addr} {vs : List V} {ps : List PV}
theorem itw_list (f : F a) (h : H a = some (.lst vs)) (r : Reps K ah F H vs ps) : ItW K ah F H (Itl K a) ps := by
  refine ⟨fun i F1 H1 kp hi => ?_, fun F1 H1 kp => ?_, fun i F1 H1 hs x H2 kp g hi y => ?_⟩
  · have h1 : i < vs.length := by rw [r.length]; exact hi
    exact ⟨vs, vs[i], .of (kp.keep _ _ f h), by simp [h1]⟩
  · exact ⟨vs, .of (kp.keep _ _ f h), by rw [r.length]; exact Nat.le_refl _⟩
  · obtain ⟨e, y⟩ := y
    subst e
    obtain ⟨p, h1, h2⟩ := (r.mono kp).getV (y vs (.of (kp.keep _ _ f h)))
    exact ⟨p, h1, .refl, g, h2⟩
theorem itw_tup (h : H a = some (.tup vs)) (r : Reps K ah F H vs ps) : ItW K ah F H (Itt K a) ps := by
  refine ⟨fun i F1 H1 kp hi => ?_, fun F1 H1 kp => ?_, fun i F1 H1 hs x H2 kp g hi y => ?_⟩
  · have h1 : i < vs.length := by rw [r.length]; exact hi
    exact ⟨vs, vs[i], SqT.of (kp.tup _ _ h), by simp [h1]⟩
  · exact ⟨vs, SqT.of (kp.tup _ _ h), by rw [r.length]; exact Nat.le_refl _⟩
  · obtain ⟨e, y⟩ := y
    subst e
    obtain ⟨p, h1, h2⟩ := (r.mono kp).getV (y vs (SqT.of (kp.tup _ _ h)))
    exact ⟨p, h1, .refl, g, h2⟩
theorem itw_ptp {o : Obj} (h : H a = some (.frz o (.tup vs))) (r : Reps K ah F H vs ps) : ItW K ah F H (Itt K a) ps := by
  refine ⟨fun i F1 H1 kp hi => ?_, fun F1 H1 kp => ?_, fun i F1 H1 hs x H2 kp g hi y => ?_⟩
  · have h1 : i < vs.length := by rw [r.length]; exact hi
    exact ⟨vs, vs[i], sqt_ptp (kp.frz _ _ _ h), by simp [h1]⟩
  · exact ⟨vs, sqt_ptp (kp.frz _ _ _ h), by rw [r.length]; exact Nat.le_refl _⟩
  · obtain ⟨e, y⟩ := y
    subst e
    obtain ⟨p, h1, h2⟩ := (r.mono kp).getV (y vs (sqt_ptp (kp.frz _ _ _ h)))
    exact ⟨p, h1, .refl, g, h2⟩
theorem itw_range {lo : Int} {n : Nat} : ItW K ah F H (Itr lo n) ((List.range n).map fun (i : Nat) => PV.int (lo + i)) := by
  refine ⟨fun i F1 H1 kp hi => ?_, fun F1 H1 kp => ?_, fun i F1 H1 hs x H2 kp g hi y => ?_⟩
  · have h : i < n := by simpa using hi
    exact h
  · show n ≤ _
    simp
  · obtain ⟨e, y⟩ := y
    subst e y
    have hi : i < n := by simpa using hi
    exact ⟨.int (lo + i), by simp [hi], .refl, g, .int _⟩
end
/-- a list, a tuple -/
def iSeq (g : EM) : IM := fun ρ => do
  let x ← g ρ
  match x with
  | .tup l => pure l
  | .lst l => pure l
  | .ptp l => pure l
  | _ => stuck
def iSeqR (K : Fg) (tl : TE) : TI := fun σ H R => tl σ H fun x H1 => ∃ a, x = .ref a ∧ ((∃ xs, SqL K H1 a xs ∧ R (Itl K a) H1) ∨ (∃ xs, SqT K H1 a xs ∧ R (Itt K a) H1))
theorem pi_seq {X : Cx} {tg l : Expr} {tl : TE} (hl : PE X l tl) : PI X tg l (iSeqR X.K tl) := by
  refine ⟨fun pins s σ H R I h => ?_⟩
  refine thn (hl.run pins s σ H _ I h) fun v s1 ⟨x, H1, I1, r1, q1⟩ => ?_
  obtain ⟨a, e, q⟩ := q1
  subst e
  cases r1
  have fr : ∀ b, b ∈ [s1.heap.objs.size] → FpOk X pins H1 b := fun b hb => by
    have e : b = s1.heap.objs.size := by simpa using hb
    subst e
    exact I1.fpOk (Nat.le_refl _) (I1.hok.fresh (Nat.le_refl _))
  rcases q with ⟨xs, hq, q⟩ | ⟨xs, hq, q⟩
  · obtain ⟨its, rv, p, hz⟩ := I1.list hq
    refine wpAny_pyIter_list p.isList ?_
    exact ⟨s1.heap.objs.size, [s1.heap.objs.size], _, _, H1, rfl, I1.kept (t' := s1.toks) fun b o e => Heap.get?_push_of_some _ e, turn_list a _, ⟨_, Heap.get?_push_size _ rfl, rfl, rfl⟩, fr, q⟩
  · obtain ⟨its, rv, p, hz⟩ := I1.tuple hq
    refine wpAny_pyIter_tuple (show s1.heap.IsTuple a its.toArray from p) ?_
    exact ⟨s1.heap.objs.size, [s1.heap.objs.size], _, _, H1, rfl, I1.kept (t' := s1.toks) fun b o e => Heap.get?_push_of_some _ e, turn_tuple a _, ⟨_, Heap.get?_push_size _ rfl, rfl, rfl⟩, fr, q⟩
theorem si_seq {X : Cx} {tg e : Expr} {g : EM} (h : SE X e g) : SI X tg e (iSeq g) := PI.wk (pi_seq h) fun σ H R ⟨ah, F, N, ρ, hs, ps, hs', G, E, q, k⟩ => by
  obtain ⟨x, h1, q1, q⟩ := M.bind_ok q
  refine ⟨ah, F, N, ρ, hs, x, h1, G, E, q1, fun F1 H1 v1 x1 G1 r1 => ?_⟩
  cases x <;> first | (cases q; done) | skip
  · cases M.pure_ok q
    cases r1 with
    | tup h z r => exact ⟨_, rfl, .inr ⟨_, .of h, k F1 H1 _ x1 G1 (itw_tup h r) (by rw [← r.length]; exact z)⟩⟩
  · cases M.pure_ok q
    cases r1 with
    | lst f h z r => exact ⟨_, rfl, .inl ⟨_, .of h, k F1 H1 _ x1 G1 (itw_list f h r) (by rw [← r.length]; exact z)⟩⟩
  · cases M.pure_ok q
    cases r1 with
    | ptp h d z r => exact ⟨_, rfl, .inr ⟨_, sqt_ptp h, k F1 H1 _ x1 G1 (itw_ptp h r) (by rw [← r.length]; exact z)⟩⟩
def rng (lo : Int) (n : Nat) : List PV := (List.range n).map fun (i : Nat) => PV.int (lo + i)
/-- range(b), range(a, b) -/
def iRange (gs : Ev → M (List PV)) : IM := fun ρ => do
  let xs ← gs ρ
  match xs with
  | [.int j] => guardM (-(2 ^ 62) ≤ j ∧ j ≤ SZ) (pure (rng 0 j.toNat))
  | [.int i, .int j] => guardM (-(2 ^ 62) ≤ i ∧ i < 2 ^ 62 ∧ -(2 ^ 62) ≤ j ∧ j < 2 ^ 62 ∧ (j - i).toNat ≤ SZ) (pure (rng i (j - i).toNat))
  | _ => stuck
theorem si_range1 {X : Cx} {tg a : Expr} {gs : Ev → M (List PV)} {p pos : Pos} (hm : X.mg "range" = none) (ha : SA X [a] gs) (hg : Gl X "range" := by rfl) (hs : starEach [a] X.env = [(false, eval a X.env)] := by rfl) (hn : Rows gs 1) : SI X tg (.Call (.Name "range" p) [a] [] pos) (iRange gs) :=
  PI.wk (pi_range1 hg hm ha hs) fun σ H R ⟨ah, F, N, ρ, hs, ps, hs', G, E, q, k⟩ => by
    obtain ⟨x, h1, q1, q⟩ := M.bind_ok q
    refine ⟨ah, F, N, ρ, hs, x, h1, G, E, q1, fun F1 H1 v1 x1 G1 r1 => ?_⟩
    have hl := hn _ _ _ _ q1
    match x, hl with
    | [y], _ =>
      obtain ⟨j, rfl⟩ : ∃ j, y = .int j := by cases y <;> first | exact ⟨_, rfl⟩ | (cases q; done)
      obtain ⟨hb, q⟩ := guard_ok q
      cases M.pure_ok q
      cases r1 with
      | cons r t =>
        cases t
        cases r
        have h1 : j ≤ (SZ : Int) := hb.2
        have h2 : (SZ : Int) = 16777216 := rfl
        refine ⟨_, rfl, hb.1, by omega, k F1 H1 _ x1 G1 ?_ ?_⟩
        · exact itw_range
        · rw [szE]
          show (List.map _ _).length ≤ 16777216
          rw [List.length_map, List.length_range]
          omega
theorem si_range2 {X : Cx} {tg a b : Expr} {gs : Ev → M (List PV)} {p pos : Pos} (hm : X.mg "range" = none) (ha : SA X [a, b] gs) (hg : Gl X "range" := by rfl) (hs : starEach [a, b] X.env = [(false, eval a X.env), (false, eval b X.env)] := by rfl)
    (hs2 : starEach [b] X.env = [(false, eval b X.env)] := by rfl) (hn : Rows gs 2) : SI X tg (.Call (.Name "range" p) [a, b] [] pos) (iRange gs) :=
  PI.wk (pi_range2 hg hm ha hs hs2) fun σ H R ⟨ah, F, N, ρ, hs, ps, hs', G, E, q, k⟩ => by
    obtain ⟨x, h1, q1, q⟩ := M.bind_ok q
    refine ⟨ah, F, N, ρ, hs, x, h1, G, E, q1, fun F1 H1 v1 x1 G1 r1 => ?_⟩
    have hl := hn _ _ _ _ q1
    match x, hl with
    | [y, y2], _ =>
      cases y <;> first | (cases q; done) | skip
      cases y2 <;> first | (cases q; done) | skip
      obtain ⟨hb, q⟩ := guard_ok q
      cases M.pure_ok q
      cases r1 with
      | cons r t =>
        cases t with
        | cons r2 t =>
          cases t
          cases r
          cases r2
          refine ⟨_, _, rfl, ⟨hb.1, hb.2.1, hb.2.2.1, hb.2.2.2.1⟩, k F1 H1 _ x1 G1 ?_ ?_⟩
          · exact itw_range
          · rw [szE]
            show (List.map _ _).length ≤ _
            rw [List.length_map, List.length_range]
            exact hb.2.2.2.2
/-- zip(xs, ys): both lists, or both tuples -/
def iZip2 (ga gb : EM) : IM := fun ρ => do
  let x ← ga ρ
  let y ← gb ρ
  match x, y with
  | .tup l, .tup m => pure ((l.zip m).map fun t => .tup [t.1, t.2])
  | .lst l, .lst m => pure ((l.zip m).map fun t => .tup [t.1, t.2])
  | _, _ => stuck
theorem itw_pair {K : Fg} {ah : Ax} {F : Addr → Prop} {H : Hp} {J : It} {l m : List PV} (go : ∀ i F1 H1, Kp K F H F1 H1 → i < l.length → i < m.length → J.go i H1) (st : ∀ F1 H1, Kp K F H F1 H1 → J.stop (min l.length m.length) H1)
    (y : ∀ i F1 H1 x H2, Kp K F H F1 H1 → J.yld i H1 x H2 → ∃ T v w p q, x = .ref T ∧ H1 T = none ∧ H2 = upd H1 T (.tup [v, w]) ∧ l[i]? = some p ∧ m[i]? = some q ∧ Rep K ah F1 H1 v p ∧ Rep K ah F1 H1 w q) : ItW K ah F H J ((l.zip m).map fun t => .tup [t.1, t.2]) := by
  refine ⟨fun i F1 H1 kp hi => ?_, fun F1 H1 kp => ?_, fun i F1 H1 hs x H2 kp g hi yy => ?_⟩
  · rw [List.length_map, List.length_zip] at hi
    exact go i F1 H1 kp (by omega) (by omega)
  · rw [List.length_map, List.length_zip]
    exact st F1 H1 kp
  · obtain ⟨T, v, w, p, q, rfl, n, rfl, h1, h2, r1, r2⟩ := y i F1 H1 x H2 kp yy
    refine ⟨.tup [p, q], ?_, .laid n, g.laid n, .tup upd_same (by rw [szE]; show 2 ≤ SZ; decide) (.cons (r1.mono (g.kpL n)) (.cons (r2.mono (g.kpL n)) .nil))⟩
    rw [List.getElem?_map]
    have : (l.zip m)[i]? = some (p, q) := by
      rw [List.getElem?_zip_eq_some]
      exact ⟨h1, h2⟩
    rw [this]; rfl
theorem si_zip {X : Cx} {e e2 : Expr} {ga gb : EM} {p pos tpos : Pos} {elts : List Expr} {kk : Nat} (hm : X.mg "zip" = none) (ha : SE X e ga) (hb : SE X e2 gb) (hg : Gl X "zip" := by rfl)
    (hs : starEach [e, e2] X.env = (false, eval e X.env) :: starEach [e2] X.env := by rfl) (hs2 : starEach [e2] X.env = (false, eval e2 X.env) :: starEach [] X.env := by rfl) (hpl : (backTo pos (starEach [e2] X.env)).any (·.1) = false := by rfl) :
    SI X (.Tuple elts kk tpos) (.Call (.Name "zip" p) [e, e2] [] pos) (iZip2 ga gb) := PI.wk (RZ.pi_zipA hg hm (pa_cons ha (pa_cons hb pa_nil hs2) hs) hs hpl) fun σ H R ⟨ah, F, N, ρ, hs, ps, hs', G, E, q, k⟩ => by
  obtain ⟨x, h1, q1, q⟩ := M.bind_ok q
  obtain ⟨y, h2, q2, q⟩ := M.bind_ok q
  refine ⟨ah, F, N, ρ, hs, x, h1, G, E, q1, fun F1 H1 v1 x1 G1 r1 => ?_⟩
  refine ⟨ah, F1, N, ρ, h1, y, h2, G1, E.ext G x1, q2, fun F2 H2 v2 x2 G2 r2 => ?_⟩
  have r1 := r1.mono (G1.kp x2)
  have x12 := x1.trans G G1 x2
  have hlen : ∀ {l m : List PV} {n : Nat}, l.length ≤ n → ((l.zip m).map fun t => PV.tup [t.1, t.2]).length ≤ n := fun h => by
    rw [List.length_map, List.length_zip]; omega
  cases x <;> first | (cases q; done) | skip
  · cases y <;> first | (cases q; done) | skip
    cases M.pure_ok q
    cases r1 with
    | tup h z r =>
      cases r2 with
      | tup h' z' r' =>
        refine ⟨_, _, _, _, rfl, .inr ⟨.of h, .of h', k F2 H2 _ x12 G2 ?_ (hlen (by rw [← r.length]; exact z))⟩⟩
        refine itw_pair (fun i F3 H3 kp h1 h2 => ?_) (fun F3 H3 kp => ?_) fun i F3 H3 x H4 kp y => ?_
        · rw [← r.length] at h1; rw [← r'.length] at h2
          exact ⟨_, _, _, _, SqT.of (kp.tup _ _ h), SqT.of (kp.tup _ _ h'), List.getElem?_eq_getElem h1, List.getElem?_eq_getElem h2⟩
        · exact ⟨_, _, SqT.of (kp.tup _ _ h), SqT.of (kp.tup _ _ h'), by rw [r.length, r'.length]; omega⟩
        · obtain ⟨T, v, w, e1, n, e2, f1, f2⟩ := y
          obtain ⟨p1, g1, t1⟩ := (r.mono kp).getV (f1 _ (SqT.of (kp.tup _ _ h)))
          obtain ⟨p2, g2, t2⟩ := (r'.mono kp).getV (f2 _ (SqT.of (kp.tup _ _ h')))
          exact ⟨T, v, w, p1, p2, e1, n, e2, g1, g2, t1, t2⟩
  · cases y <;> first | (cases q; done) | skip
    cases M.pure_ok q
    cases r1 with
    | lst f h z r =>
      cases r2 with
      | lst f' h' z' r' =>
        refine ⟨_, _, _, _, rfl, .inl ⟨.of h, .of h', k F2 H2 _ x12 G2 ?_ (hlen (by rw [← r.length]; exact z))⟩⟩
        have s1 : ∀ {F3 H3}, Kp X.K F2 H2 F3 H3 → SqL X.K H3 _ _ := fun kp => .of (kp.keep _ _ f h)
        have s2 : ∀ {F3 H3}, Kp X.K F2 H2 F3 H3 → SqL X.K H3 _ _ := fun kp => .of (kp.keep _ _ f' h')
        refine itw_pair (fun i F3 H3 kp h1 h2 => ?_) (fun F3 H3 kp => ?_) fun i F3 H3 x H4 kp y => ?_
        · rw [← r.length] at h1; rw [← r'.length] at h2
          exact ⟨_, _, _, _, s1 kp, s2 kp, List.getElem?_eq_getElem h1, List.getElem?_eq_getElem h2⟩
        · exact ⟨_, _, s1 kp, s2 kp, by rw [r.length, r'.length]; omega⟩
        · obtain ⟨T, v, w, e1, n, e2, f1, f2⟩ := y
          obtain ⟨p1, g1, t1⟩ := (r.mono kp).getV (f1 _ (s1 kp))
          obtain ⟨p2, g2, t2⟩ := (r'.mono kp).getV (f2 _ (s2 kp))
          exact ⟨T, v, w, p1, p2, e1, n, e2, g1, g2, t1, t2⟩
/-- enumerate(xs), a list -/
def iEnum (ga : EM) : IM := fun ρ => do
  let x ← ga ρ
  match x with
  | .lst l => pure (((rng 0 l.length).zip l).map fun t => .tup [t.1, t.2])
  | _ => stuck
end SL

end
section
namespace SL
open PySem PySem.Spec PyProof.Rows L2
variable [Tbs]
/-! ### list comprehensions -/
def lcF (gt : GM) (tt : TM) (ge : EM) (ρ : Ev) : List PV → M (List PV)
  | [] => pure []
  | p :: ps => do
    let ρ1 ← gt p ρ
    let b ← tt ρ1
    if b = true then (do
      let y ← ge ρ1
      let r ← lcF gt tt ge ρ ps
      pure (y :: r)) else lcF gt tt ge ρ ps
def gLc (gi : IM) (gt : GM) (tt : TM) (ge : EM) (vs : List Nat) : EM := fun ρ => do
  let ps ← gi ρ
  let r ← lcF gt tt ge (wipeE ρ vs) ps
  pure (.lst r)
def gYes : TM := fun _ => pure true
section
variable {K : Fg} {ah : Ax} {F F' : Addr → Prop} {H H' : Hp} {hs : HS} {D : Addr} {o : HO} {xs : List V}
def MutO : HO → Prop
  | .lst _ | .dK _ | .dT _ => True
  | _ => False
theorem Kp.ownO {u0 : HO} (d : H D = some u0) (m : MutO u0) (nf : ¬ F D) : Kp K F H F (upd H D o) := by
  refine ⟨fun _ h => h, fun a u f h => ?_, fun a ys h => ?_, fun a u v h => ?_, fun a u h => ?_, fun a u h => ?_⟩
  · rw [upd_ne (fun z : a = D => nf (by rw [← z]; exact f))]; exact h
  · rw [upd_ne (fun z => by rw [z, d] at h; cases h; exact m)]; exact h
  · rw [upd_ne (fun z => by rw [z, d] at h; cases h; exact m)]; exact h
  · rw [upd_ne (fun z => by rw [z, d] at h; cases h; exact m)]; exact h
  · rw [upd_ne (fun z => by rw [z, d] at h; cases h; exact m)]; exact h
theorem Kp.own (d : H D = some (.lst xs)) (nf : ¬ F D) : Kp K F H F (upd H D o) := .ownO d trivial nf
theorem tabs_upd {T : List (Addr × Str)} {u0 : HO} (t : LamX.Tabs T H) (d : H D = some u0) (m : MutO u0) : LamX.Tabs T (upd H D o) := fun p hp => by
  obtain ⟨ps, h1, h2, h3⟩ := t p hp
  refine ⟨ps, by rw [upd_ne (fun z => by rw [z, d] at h1; cases h1; exact m)]; exact h1, h2, fun pos cv e => ?_⟩
  obtain ⟨c, e1, e2⟩ := h3 pos cv e
  refine ⟨c, e1, by rw [upd_ne (fun z => by rw [z, d] at e2; cases e2; exact m)]; exact e2⟩
theorem GI.ownO {u0 : HO} (g : GI K ah F H hs) (d : H D = some u0) (m : MutO u0) (nf : ¬ F D) (n : ah.hd ≠ some D) : GI K ah F (upd H D o) hs := by
  refine ⟨fun a f z => ?_, fun a e => ?_, tabs_upd g.tabs d m, fun a ps f z => ?nt⟩
  case nt =>
    rw [upd_ne (fun z : a = D => nf (by rw [← z]; exact f))] at z; exact g.nt a ps f z
  · rw [upd_ne (fun z : a = D => nf (by rw [← z]; exact f))] at z; exact g.fin a f z
  · obtain ⟨f, vs, h, z, r⟩ := g.at_ a e
    exact ⟨f, vs, by rw [upd_ne (fun z : a = D => n (by rw [← z]; exact e))]; exact h, z, r.mono (.ownO d m nf)⟩
theorem GI.own (g : GI K ah F H hs) (d : H D = some (.lst xs)) (nf : ¬ F D) (n : ah.hd ≠ some D) : GI K ah F (upd H D o) hs := g.ownO d trivial nf n
theorem wipe_wipe (σ : L2.St) : ∀ vs : List Nat, L2.wipe (L2.wipe σ vs) vs = L2.wipe σ vs := by
  have key : ∀ (ws vs : List Nat), (∀ i ∈ ws, i ∈ vs) → ∀ τ, L2.wipe (L2.wipe τ ws) vs = L2.wipe τ vs := by
    intro ws
    induction ws with
    | nil => intro vs _ τ; rfl
    | cons w ws ih =>
      intro vs h τ
      show L2.wipe ((L2.wipe τ ws).set w none) vs = L2.wipe τ vs
      rw [wipe_set (h w List.mem_cons_self)]
      exact ih vs (fun i hi => h i (List.mem_cons_of_mem _ hi)) τ
  intro vs
  exact key vs vs (fun _ h => h) σ
end
theorem lc_w {K : Fg} {gi : IM} {gt : GM} {tt : TM} {ge : EM} {is vs : List Nat} (hv : ∀ i ∈ is, i ∈ vs) (σ : L2.St) (H : Hp) (Q : VK) (h : tSF K (gLc gi gt tt ge vs) σ H Q) : tLc (tSI K gi) (tSG K gt is) (tST K tt) (tS K ge) vs σ H Q := by
  obtain ⟨ah, F, N, ρ, hs, p, hs', G, E, q, k⟩ := h
  obtain ⟨ps, h1, q1, q⟩ := M.bind_ok q
  obtain ⟨r, h2, q2, q⟩ := M.bind_ok q
  cases M.pure_ok q
  refine ⟨ah, F, N, ρ, hs, ps, h1, G, E, q1, fun F1 H1 J x1 G1 I1 zl D nD => ?_⟩
  have E1 := E.ext G x1
  have nD' : ah.hd ≠ some D := G1.ne nD
  refine ⟨fun i m H2 => m = ps.length - i ∧ i ≤ ps.length ∧ ∃ F2 hs2 acc accP rest, Ext K ah F1 H1 F2 H2 ∧ GI K ah F2 H2 hs2 ∧ ¬ F2 D ∧ H2 D = some (.lst acc) ∧ acc.length ≤ i ∧ Reps K ah F2 H2 acc accP ∧
    lcF gt tt ge (wipeE ρ vs) (ps.drop i) hs2 = .ok (rest, hs') ∧ r = accP ++ rest, ⟨ps.length, by simp, Nat.zero_le _, F1, h1, [], [], r, .laid nD, G1.laid nD, G1.nf nD, upd_same, Nat.le_refl _, .nil, q2, rfl⟩, ?_⟩
  rintro i m H2 ⟨rfl, hi, F2, hs2, acc, accP, rest, x2, G2, nf, hD, ha, rA, q, er⟩
  have kp := G1.kp x2
  by_cases hlt : i < ps.length
  · refine .inr ⟨I1.goes i F2 H2 kp hlt, fun H3 => ∃ m', m' < ps.length - i ∧ m' = ps.length - (i + 1) ∧ i + 1 ≤ ps.length ∧ ∃ F2 hs2 acc accP rest, Ext K ah F1 H1 F2 H3 ∧ GI K ah F2 H3 hs2 ∧ ¬ F2 D ∧ H3 D = some (.lst acc) ∧ acc.length ≤ i + 1 ∧ Reps K ah F2 H3 acc accP ∧
      lcF gt tt ge (wipeE ρ vs) (ps.drop (i + 1)) hs2 = .ok (rest, hs') ∧ r = accP ++ rest, fun H3 z => z, fun x H3 y => ?_⟩
    obtain ⟨p, hp, x3, G3, rx⟩ := I1.yields i F2 H2 hs2 x H3 kp G2 hlt y
    have ed : ps.drop i = p :: ps.drop (i + 1) := by
      rw [List.drop_eq_getElem_cons hlt]
      rw [List.getElem?_eq_getElem hlt] at hp
      rw [Option.some.inj hp]
    rw [ed] at q
    obtain ⟨ρ1, h3, q3, qa⟩ := M.bind_ok q
    clear q
    have x13 := x2.trans G1 G2 x3
    have Ew : ER K ah F2 H3 N (L2.wipe σ vs) (wipeE ρ vs) := (E1.ext G1 x13).wipe vs
    refine ⟨ah, F2, N, _, hs2, p, ρ1, h3, G3, Ew, rx, q3, fun σ' E' w e => ⟨(w vs hv).trans (wipe_wipe σ vs), ?_⟩⟩
    subst e
    obtain ⟨b, h4, q4, q⟩ := M.bind_ok qa
    clear qa
    refine ⟨ah, F2, N, ρ1, _, b, h4, G3, E', q4, fun F4 H4 x4 G4 => ?_⟩
    have x14 := x13.trans G1 G3 x4
    have hD4 : H4 D = some (.lst acc) := x4.keep _ _ nD' (fun _ z => by cases z) (x3.keep _ _ nD' (fun _ z => by cases z) hD)
    have nf4 : ¬ F4 D := fun z => (x4.new _ z).elim nf fun z => by
      rw [x3.keep _ _ nD' (fun _ z => by cases z) hD] at z; cases z
    have rA4 := (rA.mono (G2.kp x3)).mono (G3.kp x4)
    cases b with
    | false =>
      rw [if_neg Bool.false_ne_true] at q
      exact iteF ⟨_, by omega, rfl, hlt, F4, h4, acc, accP, rest, x14, G4, nf4, hD4, by omega, rA4, q, er⟩
    | true =>
      rw [if_pos rfl] at q
      refine iteT ?_
      obtain ⟨y, h5, q5, q⟩ := M.bind_ok q
      obtain ⟨r', h6, q6, q⟩ := M.bind_ok q
      cases M.pure_ok q
      refine ⟨ah, F4, N, ρ1, h4, y, h5, G4, E'.ext G3 x4, q5, fun F5 H5 v x5 G5 r5 => ?_⟩
      have hD5 : H5 D = some (.lst acc) := x5.keep _ _ nD' (fun _ z => by cases z) hD4
      have nf5 : ¬ F5 D := fun z => (x5.new _ z).elim nf4 fun z => by
        rw [hD4] at z; cases z
      have rA5 := rA4.mono (G4.kp x5)
      have hz : acc.length < sizeLine := by omega
      have x15 := x14.trans G1 G4 x5
      refine ⟨acc, hD5, hz, _, by omega, rfl, hlt, F5, h5, acc ++ [v], accP ++ [y], r', ⟨x15.mono, x15.new, fun a u n t h => ?_, fun a ps h => ?tb⟩, G5.own hD5 nf5 nD', nf5, upd_same, by rw [List.length_append]; show acc.length + 1 ≤ i + 1; omega, ?_, q6, by rw [er, List.append_assoc]; rfl⟩
      case tb =>
        rw [upd_ne (ne_of_none h nD)]; exact x15.tbl a ps h
      · rw [upd_ne (ne_of_none h nD)]; exact x15.keep a u n t h
      · exact (rA5.append (.cons r5 .nil)).mono (.own hD5 nf5)
  · have e : i = ps.length := by omega
    subst e
    rw [List.drop_length] at q
    cases M.pure_ok q
    refine .inl ⟨I1.stops F2 H2 kp, ?_⟩
    rw [er, List.append_nil] at k
    exact k F2 H2 D (x1.trans G G1 x2) G2 (x1.free G nD nD') nf (.lst hD (Nat.le_trans ha zl) rA)
section
variable {X : Cx} {elt tg iter : Expr} {ifs : List Expr} {scope : Scope} {own : List (Str × Nat)} {pos : Pos} {gi : IM} {gt : GM} {tt : TM} {ge : EM} {is : List Nat}
abbrev STs (X : Cx) (ifs : List Expr) (g : TM) : Prop := PTs X ifs (tST X.K g)
theorem sts_nil : STs X [] gYes := ⟨fun pins s σ H Q I ⟨ah, F, N, ρ, hs, p, hs', G, E, q, k⟩ => by
  cases M.pure_ok q
  exact pts_nil.run pins s σ H Q I (k F H .refl G)⟩
theorem sts_one {c : Expr} {t : TM} (h : ST X c t) : STs X [c] t := pts_one h
theorem sf_lc (hN : X.N.Nodup) (ok : BlkOk X.N X.env.scope scope own) (hi : SI X tg iter gi)
    (hg : ∀ (s : Shared) (H : Hp) (C : Addr) (cl : List (Str × Addr)) (fp : List Addr), SG (X.blk s H scope (compEnvC scope cl C X.env) fp) tg gt is) (ht : ∀ (s : Shared) (H : Hp) (C : Addr) (cl : List (Str × Addr)) (fp : List Addr), STs (X.blk s H scope (compEnvC scope cl C X.env) fp) ifs tt)
    (he : ∀ (s : Shared) (H : Hp) (C : Addr) (cl : List (Str × Addr)) (fp : List Addr), SE (X.blk s H scope (compEnvC scope cl C X.env) fp) elt ge) (hc : X.calm = true := by rfl) (hv : ∀ i ∈ is, i ∈ own.map (·.2) := by decide) (hs : ∀ x, foldedSetIterable iter X.env x = pure x := by intro _; rfl) :
    SF X (.ListComp elt [⟨tg, iter, ifs, 0⟩] scope pos) (gLc gi gt tt ge (own.map (·.2))) := PE.wk (pe_lc hc hN hi ok hg ht he hs) (lc_w hv)
end
end SL

end
section
namespace SL
open PySem PySem.Spec PyProof.Rows L2
variable [Tbs]
/-! ### statements -/
inductive Out where
  | nx (ρ : Ev) | rt (p : PV) | rtF (p : PV) | bk (ρ : Ev) | ct (ρ : Ev) | ex (c : Str)
/-- what is to hold where an exception of a class goes out -/
abbrev EW := Str → Hp → Prop
def noW : EW := fun _ _ => False
abbrev SM := Ev → M Out
structure SInv (K : Fg) (ah : Ax) (F0 : Addr → Prop) (H0 : Hp) (F : Addr → Prop) (H : Hp) (σ : L2.St) (ρ : Ev) (hs : HS) : Prop where
  g0 : ∃ hs0, GI K ah F0 H0 hs0
  ext : Ext K ah F0 H0 F H
  gi : GI K ah F H hs
  er : ER K ah F H (fun a => H0 a = none) σ ρ
section
variable {K : Fg} {ah : Ax} {F0 F F' : Addr → Prop} {H0 H H' : Hp} {σ : L2.St} {ρ : Ev} {hs hs' : HS} {a : Addr} {o : HO}
theorem SInv.step (I : SInv K ah F0 H0 F H σ ρ hs) (x : Ext K ah F H F' H') (G : GI K ah F' H' hs') : SInv K ah F0 H0 F' H' σ ρ hs' := by
  obtain ⟨h0, g0⟩ := I.g0
  exact ⟨⟨h0, g0⟩, I.ext.trans g0 I.gi x, G, I.er.ext I.gi x⟩
theorem SInv.new (I : SInv K ah F0 H0 F H σ ρ hs) (n : H a = none) : H0 a = none := by
  obtain ⟨h0, g0⟩ := I.g0
  exact I.ext.free g0 n (I.gi.ne n)
end
def Fin (K : Fg) (ah : Ax) (F0 : Addr → Prop) (H0 : Hp) (F : Addr → Prop) (H : Hp) (D : Ends) (W : EW) (hs' : HS) : Out → Prop
  | .ex c => ∀ F' H', Ext K ah F0 H0 F' H' → GI K ah F' H' hs' → W c H'
  | .nx ρ' => ∀ F' H' σ', SInv K ah F0 H0 F' H' σ' ρ' hs' → Kp K F H F' H' → D.nx σ' H'
  | .rt p => ∀ F' H' v, Ext K ah F0 H0 F' H' → GI K ah F' H' hs' → Rep K ah F' H' v p → D.rt v H'
  | .rtF p => ∀ F' H' a, Ext K ah F0 H0 F' H' → GI K ah F' H' hs' → H0 a = none → ¬ F' a → Own K ah F' H' a p → D.rt (.ref a) H'
  | .bk ρ' => ∀ F' H' σ', SInv K ah F0 H0 F' H' σ' ρ' hs' → Kp K F H F' H' → D.bk σ' H'
  | .ct ρ' => ∀ F' H' σ', SInv K ah F0 H0 F' H' σ' ρ' hs' → Kp K F H F' H' → D.ct σ' H'
def tSS (K : Fg) (W : EW) (g : SM) : TS := fun D σ H => ∃ ah F0 H0 F ρ hs out hs', SInv K ah F0 H0 F H σ ρ hs ∧ g ρ hs = .ok (out, hs') ∧ Fin K ah F0 H0 F H D W hs' out
abbrev SS (X : Cx) (W : EW) (st : Stmt) (g : SM) : Prop := PS X st (tSS X.K W g)
abbrev SSs (X : Cx) (W : EW) (st : List Stmt) (g : SM) : Prop := PSs X st (tSS X.K W g)
theorem PS.wk {X : Cx} {e : Stmt} {t u : TS} (h : PS X e t) (w : ∀ D σ H, u D σ H → t D σ H) : PS X e u := ⟨fun pins s σ H D I q => h.run pins s σ H D I (w D σ H q)⟩
theorem PSs.wk {X : Cx} {e : List Stmt} {t u : TS} (h : PSs X e t) (w : ∀ D σ H, u D σ H → t D σ H) : PSs X e u := ⟨fun pins s σ H D I q => h.run pins s σ H D I (w D σ H q)⟩
theorem Fin.kp {K : Fg} {ah : Ax} {F0 F F1 : Addr → Prop} {H0 H H1 : Hp} {D : Ends} {W : EW} {hs : HS} {o : Out} (k : Kp K F H F1 H1) (f : Fin K ah F0 H0 F H D W hs o) : Fin K ah F0 H0 F1 H1 D W hs o := by
  cases o with
  | ex c => exact f
  | nx ρ => exact fun F' H' σ' I q => f F' H' σ' I (k.trans q)
  | rt p => exact f
  | rtF p => exact f
  | bk ρ => exact fun F' H' σ' I q => f F' H' σ' I (k.trans q)
  | ct ρ => exact fun F' H' σ' I q => f F' H' σ' I (k.trans q)
def sNx : SM := fun ρ => pure (.nx ρ)
/-- one behind the other -/
def sSeq (a b : SM) : SM := fun ρ => do
  let o ← a ρ
  match o with
  | .nx ρ' => b ρ'
  | o => pure o
section
variable {X : Cx} {st : Stmt} {rest : List Stmt} {e : Expr} {es : List Expr} {pos : Pos} {g ga gb : EM} {s1 s2 : SM} {t : TM} {W : EW}
theorem sss_nil : SSs X W [] sNx := PSs.wk pss_nil fun D σ H ⟨ah, F0, H0, F, ρ, hs, out, hs', I, q, f⟩ => by
  cases M.pure_ok q
  exact f F H σ I .refl
theorem sss_cons (h1 : SS X W st s1) (h2 : SSs X W rest s2) : SSs X W (st :: rest) (sSeq s1 s2) := PSs.wk (pss_cons h1 h2) fun D σ H ⟨ah, F0, H0, F, ρ, hs, out, hs', I, q, f⟩ => by
  obtain ⟨o, h1, q1, q⟩ := M.bind_ok q
  refine ⟨ah, F0, H0, F, ρ, hs, o, h1, I, q1, ?_⟩
  cases o with
  | nx ρ1 => exact fun F1 H1 σ1 I1 k1 => ⟨ah, F0, H0, F1, ρ1, h1, out, hs', I1, q, f.kp k1⟩
  | rt p => cases M.pure_ok q; exact f
  | ex c => cases M.pure_ok q; exact f
  | rtF p => cases M.pure_ok q; exact f
  | bk ρ1 => cases M.pure_ok q; exact f
  | ct ρ1 => cases M.pure_ok q; exact f
theorem sss_one (h1 : SS X W st s1) : SSs X W [st] s1 := pss_one h1
/-- an own thing becomes a shared one -/
def frz1 (i : Nat) (ρ : Ev) : Ev := match ρ[i]? with
  | some (.ow p) => ρ.set i (.fz p)
  | _ => ρ
def sFrz (i : Nat) (s : SM) : SM := fun ρ => s (frz1 i ρ)
theorem frz_inv {K : Fg} {ah : Ax} {F0 F : Addr → Prop} {H0 H : Hp} {σ : L2.St} {ρ : Ev} {hs : HS} {i : Nat} (I : SInv K ah F0 H0 F H σ ρ hs) : ∃ F', SInv K ah F0 H0 F' H σ (frz1 i ρ) hs ∧ Kp K F H F' H := by
  unfold frz1
  split
  · rename_i p e
    obtain ⟨a, ea, nf, na, n0, o⟩ := I.er.own e
    obtain ⟨u, hu⟩ := o.there
    refine ⟨fun b => F b ∨ b = a, ⟨I.g0, ⟨fun b h => .inl (I.ext.mono b h), fun b h => h.elim (I.ext.new b) fun e => .inr (e ▸ n0), I.ext.keep, I.ext.tbl⟩, I.gi.frz hu na, ?_⟩, .frzn⟩
    refine ⟨fun j s e1 => ?_, fun j k p q ne e1 e2 => ?_, by rw [List.length_set]; exact I.er.len⟩
    · by_cases hj : i = j
      · subst hj
        have hlt : i < ρ.length := (List.getElem?_eq_some_iff.mp e).1
        rw [List.getElem?_set_self hlt] at e1
        cases e1
        rw [ea]
        exact .fz o.frzn
      · rw [List.getElem?_set_ne hj] at e1
        have q := I.er.at_ j s e1
        generalize ew : σ[j]? = w at q
        cases q with
        | un => exact .un _
        | fz r => exact .fz (r.mono .frzn)
        | ow f n k o' =>
          rename_i b p'
          refine .ow (fun z => z.elim f fun z => ?_) n k ?_
          · exact I.er.apart i j _ _ hj e e1 (by rw [ea, ew, z])
          · cases o' with
            | lst h z r => exact .lst h z (r.mono .frzn)
            | dK h z k r => exact .dK h z k (r.mono .frzn)
            | dT h z k r => exact .dT h z k (r.mono .frzn)
    · by_cases hj : i = j
      · subst hj
        have hlt : i < ρ.length := (List.getElem?_eq_some_iff.mp e).1
        rw [List.getElem?_set_self hlt] at e1
        cases e1
      · by_cases hk : i = k
        · subst hk
          have hlt : i < ρ.length := (List.getElem?_eq_some_iff.mp e).1
          rw [List.getElem?_set_self hlt] at e2
          cases e2
        · rw [List.getElem?_set_ne hj] at e1
          rw [List.getElem?_set_ne hk] at e2
          exact I.er.apart j k p q ne e1 e2
  · exact ⟨F, I, .refl⟩
theorem sss_frz {sts : List Stmt} (i : Nat) (h : SSs X W sts s1) : SSs X W sts (sFrz i s1) := PSs.wk h fun D σ H ⟨ah, F0, H0, F, ρ, hs, out, hs', I, q, f⟩ => by
  obtain ⟨F', I', k⟩ := frz_inv (i := i) I
  exact ⟨ah, F0, H0, F', frz1 i ρ, hs, out, hs', I', q, f.kp k⟩
/-- target = e -/
def sAsg (g : EM) (t : GM) : SM := fun ρ => do
  let p ← g ρ
  let ρ' ← t p ρ
  pure (.nx ρ')
theorem asg_w {te : TE} {gt : GM} {is : List Nat} (w : ∀ σ H Q, tS X.K g σ H Q → te σ H Q) (D : Ends) (σ : L2.St) (H : Hp) (h : tSS X.K W (sAsg g gt) D σ H) : tAsg te (tSG X.K gt is) D σ H := by
  obtain ⟨ah, F0, H0, F, ρ, hs, out, hs', I, q, f⟩ := h
  obtain ⟨p, h1, q1, q⟩ := M.bind_ok q
  obtain ⟨ρ1, h2, q2, q⟩ := M.bind_ok q
  cases M.pure_ok q
  refine w σ H _ ⟨ah, F, _, ρ, hs, p, h1, I.gi, I.er, q1, fun F1 H1 v x1 G1 r1 => ?_⟩
  have I1 := I.step x1 G1
  refine ⟨ah, F1, _, ρ, h1, p, ρ1, _, G1, I1.er, r1, q2, fun σ1 E1 _ e => ?_⟩
  subst e
  exact f F1 H1 σ1 ⟨I1.g0, I1.ext, G1, E1⟩ (I.gi.kp x1)
theorem ss_asg {tg : Expr} {gt : GM} {is : List Nat} (he : SE X e g) (hg : SG X tg gt is) (hs : swapsWithSole [tg] e pos.line X.env = pure false := by rfl) (hw : swappedStores [tg] e X.env = pure none := by rfl)
    (h1 : (assignEach [tg] X.env).map (·.2) = [assign tg X.env] := by rfl) : SS X W (.Assign [tg] e pos) (sAsg g gt) := PS.wk (ps_asg he hg hs hw h1) (asg_w fun _ _ _ h => h)
/-- x = a new thing, the frame's own -/
def sOwn (g : EM) (i : Nat) : SM := fun ρ => do
  let p ← g ρ
  pure (.nx (ρ.set i (.ow p)))
theorem own_w {te : TE} {i : Nat} (w : ∀ σ H Q, tSF X.K g σ H Q → te σ H Q) (D : Ends) (σ : L2.St) (H : Hp) (h : tSS X.K W (sOwn g i) D σ H) : tAsg te (gName i) D σ H := by
  obtain ⟨ah, F0, H0, F, ρ, hs, out, hs', I, q, f⟩ := h
  obtain ⟨p, h1, q1, q⟩ := M.bind_ok q
  cases M.pure_ok q
  refine w σ H _ ⟨ah, F, _, ρ, hs, p, _, I.gi, I.er, q1, fun F1 H1 a x1 G1 n nf o => ?_⟩
  have I1 := I.step x1 G1
  refine f F1 H1 _ ⟨I1.g0, I1.ext, G1, I1.er.set (.ow nf (I.gi.ne n) (I.new n) o) fun p' _ j t ne e1 e2 => ?_⟩ (I.gi.kp x1)
  obtain ⟨b, e3, _, _, _, o'⟩ := I.er.own e1
  obtain ⟨u, hu, _⟩ := o'.there
  rw [e2] at e3
  cases e3
  rw [n] at hu; cases hu
theorem ss_own {x : Str} {i : Nat} {p : Pos} (he : SF X e g) (hg : PG X (.Name x p) (gName i)) (hs : swapsWithSole [.Name x p] e pos.line X.env = pure false := by rfl) (hw : swappedStores [.Name x p] e X.env = pure none := by rfl)
    (h1 : (assignEach [.Name x p] X.env).map (·.2) = [assign (.Name x p) X.env] := by rfl) : SS X W (.Assign [.Name x p] e pos) (sOwn g i) := PS.wk (ps_asg he hg hs hw h1) (own_w fun _ _ _ h => h)
/-- an expression alone -/
def sExpr (g : EM) : SM := fun ρ => do
  let _ ← g ρ
  pure (.nx ρ)
theorem ss_expr (he : SE X e g) (hs : swapsWith e none pos.line X.env = pure false := by rfl) : SS X W (.Expr e pos) (sExpr g) := PS.wk (ps_expr he hs) fun D σ H ⟨ah, F0, H0, F, ρ, hs, out, hs', I, q, f⟩ => by
  obtain ⟨p, h1, q1, q⟩ := M.bind_ok q
  cases M.pure_ok q
  exact ⟨ah, F, _, ρ, hs, p, _, I.gi, I.er, q1, fun F1 H1 v x1 G1 r1 => f F1 H1 σ (I.step x1 G1) (I.gi.kp x1)⟩
def sRet (g : EM) : SM := fun ρ => do
  let p ← g ρ
  pure (.rt p)
def sRetF (g : EM) : SM := fun ρ => do
  let p ← g ρ
  pure (.rtF p)
theorem ss_ret (he : SE X e g) : SS X W (.Return (some e) pos) (sRet g) := PS.wk (ps_ret he) fun D σ H ⟨ah, F0, H0, F, ρ, hs, out, hs', I, q, f⟩ => by
  obtain ⟨p, h1, q1, q⟩ := M.bind_ok q
  cases M.pure_ok q
  exact ⟨ah, F, _, ρ, hs, p, _, I.gi, I.er, q1, fun F1 H1 v x1 G1 r1 => f F1 H1 v (I.step x1 G1).ext G1 r1⟩
theorem ss_retF (he : SF X e g) : SS X W (.Return (some e) pos) (sRetF g) := PS.wk (ps_ret he) fun D σ H ⟨ah, F0, H0, F, ρ, hs, out, hs', I, q, f⟩ => by
  obtain ⟨p, h1, q1, q⟩ := M.bind_ok q
  cases M.pure_ok q
  exact ⟨ah, F, _, ρ, hs, p, _, I.gi, I.er, q1, fun F1 H1 a x1 G1 n nf o => f F1 H1 a (I.step x1 G1).ext G1 (I.new n) nf o⟩
def sRetN : SM := fun _ => pure (.rt .non)
theorem ss_retN : SS X W (.Return none pos) sRetN := PS.wk ps_retN fun D σ H ⟨ah, F0, H0, F, ρ, hs, out, hs', I, q, f⟩ => by
  cases M.pure_ok q
  exact f F H _ I.ext I.gi .non
theorem ss_pass : SS X W (.Pass pos) sNx := PS.wk ps_pass fun D σ H ⟨ah, F0, H0, F, ρ, hs, out, hs', I, q, f⟩ => by
  cases M.pure_ok q
  exact f F H σ I .refl
def sBrk : SM := fun ρ => pure (.bk ρ)
def sCnt : SM := fun ρ => pure (.ct ρ)
theorem ss_break : SS X W (.Break pos) sBrk := PS.wk ps_break fun D σ H ⟨ah, F0, H0, F, ρ, hs, out, hs', I, q, f⟩ => by
  cases M.pure_ok q
  exact f F H σ I .refl
theorem ss_continue : SS X W (.Continue pos) sCnt := PS.wk ps_continue fun D σ H ⟨ah, F0, H0, F, ρ, hs, out, hs', I, q, f⟩ => by
  cases M.pure_ok q
  exact f F H σ I .refl
/-- what the walk never comes to -/
def sNever : SM := fun _ => stuck
theorem ss_never : SS X W st sNever := PS.wk ps_never fun D σ H ⟨ah, F0, H0, F, ρ, hs, out, hs', I, q, f⟩ => by cases q
theorem sss_never {sts : List Stmt} : SSs X W sts sNever := PSs.wk pss_never fun D σ H ⟨ah, F0, H0, F, ρ, hs, out, hs', I, q, f⟩ => by cases q
def sIf (t : TM) (a b : SM) : SM := fun ρ => do
  let c ← t ρ
  if c = true then a ρ else b ρ
theorem ss_if {c : Expr} {xs ys : List Stmt} (hc : ST X c t) (h1 : SSs X W xs s1) (h2 : SSs X W ys s2) : SS X W (.If c xs ys pos) (sIf t s1 s2) := PS.wk (ps_if hc h1 h2) fun D σ H ⟨ah, F0, H0, F, ρ, hs, out, hs', I, q, f⟩ => by
  obtain ⟨b, h1, q1, q⟩ := M.bind_ok q
  refine ⟨ah, F, _, ρ, hs, b, h1, I.gi, I.er, q1, fun F1 H1 x1 G1 => ?_⟩
  cases b with
  | true => exact iteT ⟨ah, F0, H0, F1, ρ, h1, out, hs', I.step x1 G1, q, f.kp (I.gi.kp x1)⟩
  | false => exact iteF ⟨ah, F0, H0, F1, ρ, h1, out, hs', I.step x1 G1, q, f.kp (I.gi.kp x1)⟩

/-! ### loops -/
def forF (gt : GM) (gb : SM) : List PV → SM
  | [], ρ => pure (.nx ρ)
  | p :: ps, ρ => do
    let ρ1 ← gt p ρ
    let o ← gb ρ1
    match o with
    | .nx ρ' => forF gt gb ps ρ'
    | .ct ρ' => forF gt gb ps ρ'
    | .bk ρ' => pure (.nx ρ')
    | o => pure o
def sFor (gi : IM) (gt : GM) (gb : SM) : SM := fun ρ => do
  let ps ← gi ρ
  forF gt gb ps ρ
theorem for_w {W : EW} {K : Fg} {gi : IM} {gt : GM} {gb : SM} {is : List Nat} (D : Ends) (σ : L2.St) (H : Hp) (h : tSS K W (sFor gi gt gb) D σ H) : tFor (tSI K gi) (tSG K gt is) (tSS K W gb) D σ H := by
  obtain ⟨ah, F0, H0, F, ρ, hs, out, hs', I, q, f⟩ := h
  obtain ⟨ps, h1, q1, q⟩ := M.bind_ok q
  refine ⟨ah, F, _, ρ, hs, ps, h1, I.gi, I.er, q1, fun F1 H1 J x1 G1 I1 zl => ?_⟩
  have f1 := f.kp (I.gi.kp x1)
  refine ⟨fun i m σ2 H2 => m = ps.length - i ∧ i ≤ ps.length ∧ ∃ F2 ρ2 hs2, SInv K ah F0 H0 F2 H2 σ2 ρ2 hs2 ∧ Kp K F1 H1 F2 H2 ∧ forF gt gb (ps.drop i) ρ2 hs2 = .ok (out, hs'), ⟨ps.length, by simp, Nat.zero_le _, F1, ρ, h1, I.step x1 G1, .refl, q⟩, ?_⟩
  rintro i m σ2 H2 ⟨rfl, hi, F2, ρ2, hs2, I2, k2, q⟩
  by_cases hlt : i < ps.length
  · refine .inr ⟨I1.goes i F2 H2 k2 hlt, fun σ3 H3 => ∃ m', m' < ps.length - i ∧ m' = ps.length - (i + 1) ∧ i + 1 ≤ ps.length ∧ ∃ F2 ρ2 hs2, SInv K ah F0 H0 F2 H3 σ3 ρ2 hs2 ∧ Kp K F1 H1 F2 H3 ∧ forF gt gb (ps.drop (i + 1)) ρ2 hs2 = .ok (out, hs'), fun σ3 H3 z => z, fun x H3 y => ?_⟩
    obtain ⟨p, hp, x3, G3, rx⟩ := I1.yields i F2 H2 hs2 x H3 k2 I2.gi hlt y
    have ed : ps.drop i = p :: ps.drop (i + 1) := by
      rw [List.drop_eq_getElem_cons hlt]
      rw [List.getElem?_eq_getElem hlt] at hp
      rw [Option.some.inj hp]
    rw [ed] at q
    obtain ⟨ρ3, h3, q3, qa⟩ := M.bind_ok q
    obtain ⟨o, h4, q4, qb⟩ := M.bind_ok qa
    have I3 := I2.step x3 G3
    have k3 := k2.trans (I2.gi.kp x3)
    refine ⟨ah, F2, _, ρ2, hs2, p, ρ3, h3, G3, I3.er, rx, q3, fun σ4 E4 _ e => ?_⟩
    subst e
    have I4 : SInv K ah F0 H0 F2 H3 σ4 ρ3 h3 := ⟨I3.g0, I3.ext, G3, E4⟩
    refine ⟨ah, F0, H0, F2, ρ3, h3, o, h4, I4, q4, ?_⟩
    cases o with
    | nx ρ5 => exact fun F5 H5 σ5 I5 k5 => ⟨_, by omega, rfl, hlt, F5, ρ5, h4, I5, k3.trans k5, qb⟩
    | ct ρ5 => exact fun F5 H5 σ5 I5 k5 => ⟨_, by omega, rfl, hlt, F5, ρ5, h4, I5, k3.trans k5, qb⟩
    | bk ρ5 => cases M.pure_ok qb; exact fun F5 H5 σ5 I5 k5 => f1 F5 H5 σ5 I5 (k3.trans k5)
    | rt p5 => cases M.pure_ok qb; exact f1
    | ex c => cases M.pure_ok qb; exact f1
    | rtF p5 => cases M.pure_ok qb; exact f1
  · have e : i = ps.length := by omega
    subst e
    rw [List.drop_length] at q
    cases M.pure_ok q
    exact .inl ⟨I1.stops F2 H2 k2, f1 F2 H2 σ2 I2 k2⟩
theorem ss_for {tg iter : Expr} {body : List Stmt} {gi : IM} {gt : GM} {gb : SM} {is : List Nat} (hp : PassesOwn (model X.prog X.w) X.A X.env X.xe) (hi : SI X tg iter gi) (hg : SG X tg gt is) (hb : SSs X W body gb) (hc : X.calm = true := by rfl)
    (hs : ∀ x, foldedSetIterable iter X.env x = pure x := by intro _; rfl) : SS X W (.For tg iter body [] pos) (sFor gi gt gb) := PS.wk (ps_for hp hc hi hg hb hs) for_w
def whF (c : TM) (gb : SM) : Nat → SM
  | 0, _ => stuck
  | n + 1, ρ => do
    let b ← c ρ
    if b = true then (do
      let o ← gb ρ
      match o with
      | .nx ρ' => whF c gb n ρ'
      | .ct ρ' => whF c gb n ρ'
      | .bk ρ' => pure (.nx ρ')
      | o => pure o) else pure (.nx ρ)
/-- at most n turns -/
def sWh (n : Nat) (c : TM) (gb : SM) : SM := whF c gb n
theorem wh_w {W : EW} {K : Fg} {n : Nat} {c : TM} {gb : SM} (D : Ends) (σ : L2.St) (H : Hp) (h : tSS K W (sWh n c gb) D σ H) : tWhile (tST K c) (tSS K W gb) D σ H := by
  obtain ⟨ah, F0, H0, F, ρ, hs, out, hs', I, q, f⟩ := h
  refine ⟨fun m σ2 H2 => ∃ F2 ρ2 hs2, SInv K ah F0 H0 F2 H2 σ2 ρ2 hs2 ∧ Kp K F H F2 H2 ∧ whF c gb m ρ2 hs2 = .ok (out, hs'), ⟨n, F, ρ, hs, I, .refl, q⟩, ?_⟩
  rintro m σ2 H2 ⟨F2, ρ2, hs2, I2, k2, q⟩
  cases m with
  | zero => cases q
  | succ m =>
    obtain ⟨b, h3, q3, qa⟩ := M.bind_ok q
    refine ⟨ah, F2, _, ρ2, hs2, b, h3, I2.gi, I2.er, q3, fun F3 H3 x3 G3 => ?_⟩
    have I3 := I2.step x3 G3
    have k3 := k2.trans (I2.gi.kp x3)
    cases b with
    | false =>
      cases M.pure_ok qa
      exact iteF (f F3 H3 σ2 I3 k3)
    | true =>
      refine iteT ⟨fun σ4 H4 => ∃ m', m' < m + 1 ∧ ∃ F2 ρ2 hs2, SInv K ah F0 H0 F2 H4 σ4 ρ2 hs2 ∧ Kp K F H F2 H4 ∧ whF c gb m' ρ2 hs2 = .ok (out, hs'), fun σ4 H4 z => z, ?_⟩
      obtain ⟨o, h4, q4, qb⟩ := M.bind_ok qa
      refine ⟨ah, F0, H0, F3, ρ2, h3, o, h4, I3, q4, ?_⟩
      cases o with
      | nx ρ5 => exact fun F5 H5 σ5 I5 k5 => ⟨m, Nat.lt_succ_self _, F5, ρ5, h4, I5, k3.trans k5, qb⟩
      | ct ρ5 => exact fun F5 H5 σ5 I5 k5 => ⟨m, Nat.lt_succ_self _, F5, ρ5, h4, I5, k3.trans k5, qb⟩
      | bk ρ5 => cases M.pure_ok qb; exact fun F5 H5 σ5 I5 k5 => f F5 H5 σ5 I5 (k3.trans k5)
      | rt p5 => cases M.pure_ok qb; exact f
      | ex c => cases M.pure_ok qb; exact f
      | rtF p5 => cases M.pure_ok qb; exact f
theorem ss_while {c : Expr} {body : List Stmt} {gb : SM} (n : Nat) (hp : PassesOwn (model X.prog X.w) X.A X.env X.xe) (hc : ST X c t) (hb : SSs X W body gb) : SS X W (.While c body [] pos) (sWh n t gb) := PS.wk (ps_while hp hc hb) wh_w
end

/-! ### a def -/
def ev0 (nl : Nat) (ps : List PV) : Ev := ps.map .fz ++ List.replicate (nl - ps.length) .un
/-- the mirror of a def: nl names, its body -/
def fnM (nl : Nat) (g : SM) : List PV → M PV := fun ps => do
  let o ← g (ev0 nl ps)
  match o with
  | .rt p => pure p
  | .nx _ => pure .non
  | _ => stuck
theorem er_start {K : Fg} {ah : Ax} {F N : Addr → Prop} {H : Hp} {Ns : List Str} {vs : List V} {ps : List PV} (r : Reps K ah F H vs ps) : ER K ah F H N (L2.start Ns vs) (ev0 Ns.length ps) := by
  unfold L2.start ev0
  rw [r.length]
  refine ⟨fun i s e => ?_, fun i j p q ne e1 e2 => ?_, by simp [r.length]⟩
  · by_cases hi : i < ps.length
    · rw [List.getElem?_append_left (by simpa using hi)] at e
      rw [List.getElem?_append_left (by simpa [r.length] using hi)]
      rw [List.getElem?_map] at e ⊢
      cases ep : ps[i]? with
      | none => rw [ep] at e; cases e
      | some p =>
        rw [ep] at e
        cases e
        obtain ⟨v, hv, rv⟩ := r.get ep
        rw [hv]
        exact .fz rv
    · rw [List.getElem?_append_right (by simpa using hi), List.getElem?_replicate] at e
      split at e
      · cases e; exact .un _
      · cases e
  · have no : ∀ {k : Nat} {p : PV}, (List.map Slot.fz ps ++ List.replicate (Ns.length - ps.length) Slot.un)[k]? = some (.ow p) → False := fun {k p} h => by
      by_cases hk : k < ps.length
      · rw [List.getElem?_append_left (by simpa using hk), List.getElem?_map] at h
        cases ep : ps[k]? with
        | none => rw [ep] at h; cases h
        | some p => rw [ep] at h; cases h
      · rw [List.getElem?_append_right (by simpa using hk), List.getElem?_replicate] at h
        split at h <;> cases h
    exact (no e1).elim
section
variable {P : Program} {w : World} {K : Fg} {mg : Str → Option Value} {base : Heap}
theorem ok_fn {x qual : Str} {st : Stmt} {f : Addr} {fd : FuncData} {Ns ps : List Str} {k : Nat} {g : SM} (Fu : Fun K x qual st f fd) (S : FnScope Ns ps (defScope st))
    (hb : ∀ (cdv : Value) (A : Around) (outer : List Env) (s : Shared) (H : Hp) (E : XK), Room k (A.deeper (envOfC qual (defScope st) s.heap.objs.size f cdv)) → SSs (cxOf CX0 P w K mg base Ns qual (defScope st) f cdv A outer s H E).nox noW (defBody st) g) :
    FnOk P w K mg base CX0 (k + 1) f fd ps (spM K ps.length (fnM Ns.length g)) := by
  refine okF Fu S (fun vs H Q E h => h.1) fun cdv A outer s H vs Q E hr h => ⟨_, hb cdv A outer s H E hr, ?_⟩
  obtain ⟨hl, ah, F, qs, hs, p, hs', G, r, q, k⟩ := h
  obtain ⟨o, h1, q1, q⟩ := M.bind_ok q
  refine ⟨ah, F, H, F, ev0 Ns.length qs, hs, o, h1, ⟨⟨hs, G⟩, .refl, G, er_start r⟩, q1, ?_⟩
  cases o with
  | nx ρ => cases M.pure_ok q; exact fun F' H' σ' I' _ => k F' H' _ I'.ext I'.gi .non
  | rt p => cases M.pure_ok q; exact fun F' H' v x' G' r' => k F' H' v x' G' r'
  | _ => cases q
theorem known {x qual : Str} {st : Stmt} {f : Addr} {fd : FuncData} {Ns ps : List Str} {k n : Nat} {g : SM} (hm : mg x = some (.ref f)) (Fu : Fun K x qual st f fd) (b : L2.Binds K fd ps []) (S : FnScope Ns ps (defScope st)) (hn : ps.length = n)
    (hb : ∀ (cdv : Value) (A : Around) (outer : List Env) (s : Shared) (H : Hp) (E : XK), Room k (A.deeper (envOfC qual (defScope st) s.heap.objs.size f cdv)) → SSs (cxOf CX0 P w K mg base Ns qual (defScope st) f cdv A outer s H E).nox noW (defBody st) g) :
    Known P w K mg base x n (k + 1) (fnM Ns.length g) := ⟨f, fd, ps, hm, Fu.kp, b, by rw [← hn]; exact ok_fn Fu S hb⟩
end
end SL

end
section
namespace SL
open PySem PySem.Spec PyProof.Rows L2
variable [Tbs]
theorem M.set_ok {x h : HS} {r : PUnit × HS} (e : (set x : M PUnit) h = .ok r) : r = (PUnit.unit, x) := by
  have e : Except.ok (PUnit.unit, x) = .ok r := e
  cases e; rfl
/-! ### own lists changed -/
def ownL : Option Slot → M (List PV)
  | some (.ow (.lst l)) => pure l
  | _ => stuck
theorem ownL_ok {o : Option Slot} {hs : HS} {r : List PV × HS} (h : ownL o hs = .ok r) : o = some (.ow (.lst r.1)) ∧ r.2 = hs := by
  unfold ownL at h
  split at h
  · cases M.pure_ok h; exact ⟨rfl, rfl⟩
  · cases h
section
variable {K : Fg} {ah : Ax} {F0 F F' : Addr → Prop} {H0 H H' : Hp} {σ : L2.St} {ρ : Ev} {hs hs' : HS} {a : Addr} {o : HO} {i : Nat} {p q : PV}
theorem ER.ownL {N : Addr → Prop} {l : List PV} (E : ER K ah F H N σ ρ) (e : ρ[i]? = some (.ow (.lst l))) : ∃ a vs, σ[i]? = some (some (.ref a)) ∧ ¬ F a ∧ ah.hd ≠ some a ∧ N a ∧ H a = some (.lst vs) ∧ vs.length ≤ sizeLine ∧ Reps K ah F H vs l := by
  obtain ⟨a, h1, h2, h3, h4, o⟩ := E.own e
  cases o with
  | lst h z r => exact ⟨a, _, h1, h2, h3, h4, h, z, r⟩
theorem SInv.updO {u0 u : HO} {q0 : PV} (I : SInv K ah F0 H0 F H σ ρ hs) (e : ρ[i]? = some (.ow p)) (ea : σ[i]? = some (some (.ref a))) (nf : ¬ F a) (na : ah.hd ≠ some a) (n0 : H0 a = none) (h : H a = some u0) (m : MutO u0) (ho : Kp K F H F (upd H a u) → Own K ah F (upd H a u) a q0) :
    SInv K ah F0 H0 F (upd H a u) σ (ρ.set i (.ow q0)) hs ∧ Kp K F H F (upd H a u) := by
  have kp : Kp K F H F (upd H a u) := .ownO h m nf
  refine ⟨⟨I.g0, ⟨I.ext.mono, I.ext.new, fun b u n t q => by rw [upd_ne (ne_of_none q n0)]; exact I.ext.keep b u n t q, fun b ps q => by rw [upd_ne (ne_of_none q n0)]; exact I.ext.tbl b ps q⟩, I.gi.ownO h m nf na, ?_⟩, kp⟩
  have hlt : i < ρ.length := (List.getElem?_eq_some_iff.mp e).1
  refine ⟨fun j s e1 => ?_, fun j k p q ne e1 e2 => ?_, by rw [List.length_set]; exact I.er.len⟩
  · by_cases hj : i = j
    · subst hj
      rw [List.getElem?_set_self hlt] at e1
      cases e1
      rw [ea]
      exact .ow nf na n0 (ho kp)
    · rw [List.getElem?_set_ne hj] at e1
      have q := I.er.at_ j s e1
      generalize ew : σ[j]? = w at q
      cases q with
      | un => exact .un _
      | fz r => exact .fz (r.mono kp)
      | ow f n k o' =>
        rename_i b p'
        have hb : b ≠ a := fun z => I.er.apart i j _ _ hj e e1 (by rw [ea, ew, z])
        refine .ow f n k ?_
        cases o' with
        | lst h z r => exact .lst (by rw [upd_ne hb]; exact h) z (r.mono kp)
        | dK h z k r => exact .dK (by rw [upd_ne hb]; exact h) z k (r.mono kp)
        | dT h z k r => exact .dT (by rw [upd_ne hb]; exact h) z k (r.mono kp)
  · have back : ∀ (j : Nat) (p : PV), (ρ.set i (.ow q0))[j]? = some (.ow p) → ∃ p', ρ[j]? = some (.ow p') := fun j p h => by
      by_cases hj : i = j
      · subst hj; exact ⟨_, e⟩
      · rw [List.getElem?_set_ne hj] at h; exact ⟨_, h⟩
    obtain ⟨p', f1⟩ := back j p e1
    obtain ⟨q', f2⟩ := back k q e2
    exact I.er.apart j k p' q' ne f1 f2
theorem SInv.updL {xs vs : List V} {ps : List PV} (I : SInv K ah F0 H0 F H σ ρ hs) (e : ρ[i]? = some (.ow p)) (ea : σ[i]? = some (some (.ref a))) (nf : ¬ F a) (na : ah.hd ≠ some a) (n0 : H0 a = none) (h : H a = some (.lst xs)) (z : vs.length ≤ sizeLine) (r : Reps K ah F H vs ps) :
    SInv K ah F0 H0 F (upd H a (.lst vs)) σ (ρ.set i (.ow (.lst ps))) hs ∧ Kp K F H F (upd H a (.lst vs)) := I.updO e ea nf na n0 h trivial fun kp => .lst upd_same z (r.mono kp)
theorem tyV_lst {xs : List V} (h : H a = some (.lst xs)) : tyV K "list" (.ref a) H := .inl ⟨rfl, _, SqL.of h⟩
end
section
variable {X : Cx} {e ei : Expr} {x y : Str} {p p1 p2 p3 pos apos : Pos} {g gi : EM} {i j : Nat} {W : EW}
/-- x.append(e) -/
def sApp (i : Nat) (g : EM) : SM := fun ρ => do
  let l ← ownL ρ[i]?
  let p ← g ρ
  guardM (l.length < SZ) (pure (.nx (ρ.set i (.ow (.lst (l ++ [p]))))))
theorem app_w (D : Ends) (σ : L2.St) (H : Hp) (h : tSS X.K W (sApp i g) D σ H) : tDrop (tBM X.K "list" rAppend (tVar i) (tCons (tS X.K g) tNil)) D σ H := by
  obtain ⟨ah, F0, H0, F, ρ, hs, out, hs', I, q, f⟩ := h
  obtain ⟨l, h1, q1, q⟩ := M.bind_ok q
  obtain ⟨p, h2, q2, q⟩ := M.bind_ok q
  obtain ⟨hz, q⟩ := guard_ok q
  cases M.pure_ok q
  obtain ⟨e, e'⟩ := ownL_ok q1
  subst e'
  obtain ⟨a, vs, ea, nf, na, n0, h, z, r⟩ := I.er.ownL e
  refine ⟨_, ea, tyV_lst h, ah, F, _, ρ, _, p, _, I.gi, I.er, q2, fun F1 H1 v x1 G1 r1 => ?_⟩
  have I1 := I.step x1 G1
  obtain ⟨a', vs', ea', nf1, na1, n01, h1, z1, rr⟩ := I1.er.ownL e
  rw [ea] at ea'
  cases ea'
  have hl : vs'.length < sizeLine := by rw [rr.length, szE]; exact hz
  obtain ⟨I2, k2⟩ := I1.updL (vs := vs' ++ [v]) (ps := l ++ [p]) e ea nf1 na1 n01 h1 (by rw [List.length_append]; exact hl) (rr.append (.cons r1 .nil))
  exact ⟨a, vs', v, rfl, rfl, h1, hl, f F1 _ σ I2 ((I.gi.kp x1).trans k2)⟩
/-- x.extend(e), e a list -/
def sExt (i : Nat) (g : EM) : SM := fun ρ => do
  let l ← ownL ρ[i]?
  let p ← g ρ
  match p with
  | .lst m => guardM (l.length + m.length ≤ SZ) (pure (.nx (ρ.set i (.ow (.lst (l ++ m))))))
  | _ => stuck
theorem ext_w (D : Ends) (σ : L2.St) (H : Hp) (h : tSS X.K W (sExt i g) D σ H) : tDrop (tBM X.K "list" rExtend (tVar i) (tCons (tS X.K g) tNil)) D σ H := by
  obtain ⟨ah, F0, H0, F, ρ, hs, out, hs', I, q, f⟩ := h
  obtain ⟨l, h1, q1, q⟩ := M.bind_ok q
  obtain ⟨p, h2, q2, q⟩ := M.bind_ok q
  cases p <;> first | (cases q; done) | skip
  rename_i m
  obtain ⟨hz, q⟩ := guard_ok q
  cases M.pure_ok q
  obtain ⟨e, e'⟩ := ownL_ok q1
  subst e'
  obtain ⟨a, vs, ea, nf, na, n0, h, z, r⟩ := I.er.ownL e
  refine ⟨_, ea, tyV_lst h, ah, F, _, ρ, _, _, _, I.gi, I.er, q2, fun F1 H1 v x1 G1 r1 => ?_⟩
  have I1 := I.step x1 G1
  obtain ⟨a', vs', ea', nf1, na1, n01, h1, z1, rr⟩ := I1.er.ownL e
  rw [ea] at ea'
  cases ea'
  cases r1 with
  | @lst b ws _ fb hb zb rb =>
    have hl : vs'.length + ws.length ≤ sizeLine := by rw [rr.length, rb.length, szE]; exact hz
    obtain ⟨I2, k2⟩ := I1.updL (vs := vs' ++ _) (ps := l ++ m) e ea nf1 na1 n01 h1 (by rw [List.length_append]; exact hl) (rr.append rb)
    exact ⟨a, _, vs', _, rfl, rfl, h1, hb, hl, f F1 _ σ I2 ((I.gi.kp x1).trans k2)⟩
/-- x[i] = e -/
def sSet (i : Nat) (gi g : EM) : SM := fun ρ => do
  let p ← g ρ
  let l ← ownL ρ[i]?
  let y ← gi ρ
  let k ← asInt y
  let j ← liftO (ixN l.length k)
  pure (.nx (ρ.set i (.ow (.lst (l.set j p)))))
theorem set_w (D : Ends) (σ : L2.St) (H : Hp) (h : tSS X.K W (sSet i gi g) D σ H) : tAsg (tS X.K g) (gSub (tVar i) (tS X.K gi) rSetL) D σ H := by
  obtain ⟨ah, F0, H0, F, ρ, hs, out, hs', I, q, f⟩ := h
  obtain ⟨p, h1, q1, q⟩ := M.bind_ok q
  obtain ⟨l, h2, q2, q⟩ := M.bind_ok q
  obtain ⟨y, h3, q3, q⟩ := M.bind_ok q
  obtain ⟨k, h4, q4, q⟩ := M.bind_ok q
  obtain ⟨j, h5, q5, q⟩ := M.bind_ok q
  cases M.pure_ok q
  obtain ⟨e, e'⟩ := ownL_ok q2
  subst e'
  obtain ⟨rfl, rfl⟩ := asInt_ok q4
  obtain ⟨ej, e'⟩ := M.lift_ok q5
  cases e'
  refine ⟨ah, F, _, ρ, _, p, _, I.gi, I.er, q1, fun F1 H1 v x1 G1 r1 => ?_⟩
  have I1 := I.step x1 G1
  obtain ⟨a, vs, ea, nf, na, n0, h, z, r⟩ := I1.er.ownL e
  refine ⟨_, ea, ah, F1, _, ρ, _, _, _, I1.gi, I1.er, q3, fun F2 H2 v2 x2 G2 r2 => ?_⟩
  have I2 := I1.step x2 G2
  obtain ⟨a', vs', ea', nf1, na1, n01, h1, z1, rr⟩ := I2.er.ownL e
  rw [ea] at ea'
  cases ea'
  cases r2
  obtain ⟨I3, k3⟩ := I2.updL (vs := vs'.set j v) (ps := l.set j p) e ea nf1 na1 n01 h1 (by rw [List.length_set]; exact z1) (rr.set (r1.mono (I1.gi.kp x2)) j)
  exact ⟨a, vs', _, j, rfl, rfl, h1, by rw [rr.length]; exact ej, f F2 _ σ I3 (((I.gi.kp x1).trans (I1.gi.kp x2)).trans k3)⟩
/-- hand[i] = e -/
def sSetH (go gi g : EM) : SM := fun ρ => do
  let p ← g ρ
  let o ← go ρ
  let y ← gi ρ
  let k ← asInt y
  match o with
  | .hand => do
    let h ← get
    let j ← liftO (ixN h.length k)
    set (h.set j p)
    pure (.nx ρ)
  | _ => stuck
theorem seth_w {go : EM} (D : Ends) (σ : L2.St) (H : Hp) (h : tSS X.K W (sSetH go gi g) D σ H) : tAsg (tS X.K g) (gSub (tS X.K go) (tS X.K gi) rSetL) D σ H := by
  obtain ⟨ah, F0, H0, F, ρ, hs, out, hs', I, q, f⟩ := h
  obtain ⟨p, h1, q1, q⟩ := M.bind_ok q
  obtain ⟨o, h2, q2, q⟩ := M.bind_ok q
  obtain ⟨y, h3, q3, q⟩ := M.bind_ok q
  obtain ⟨k, h4, q4, qa⟩ := M.bind_ok q
  clear q
  obtain ⟨rfl, rfl⟩ := asInt_ok q4
  obtain rfl : o = .hand := by cases o <;> first | rfl | (cases qa; done)
  obtain ⟨hh, h6, q6, qb⟩ := M.bind_ok qa
  cases M.get_ok q6
  obtain ⟨j, h7, q7, qc⟩ := M.bind_ok qb
  obtain ⟨ej, e'⟩ := M.lift_ok q7
  cases e'
  obtain ⟨u, h8, q8, q⟩ := M.bind_ok qc
  cases M.set_ok q8
  cases M.pure_ok q
  refine ⟨ah, F, _, ρ, _, p, _, I.gi, I.er, q1, fun F1 H1 v x1 G1 r1 => ?_⟩
  have I1 := I.step x1 G1
  refine ⟨ah, F1, _, ρ, _, _, _, I1.gi, I1.er, q2, fun F2 H2 v2 x2 G2 r2 => ?_⟩
  have I2 := I1.step x2 G2
  refine ⟨ah, F2, _, ρ, _, _, _, I2.gi, I2.er, q3, fun F3 H3 v3 x3 G3 r3 => ?_⟩
  have I3 := I2.step x3 G3
  cases r3
  have k3 := ((I.gi.kp x1).trans (I1.gi.kp x2)).trans (I2.gi.kp x3)
  cases r2 with
  | hand eh =>
    rename_i a
    obtain ⟨nf, vs, h, z, r⟩ := G3.at_ a eh
    have kp : Kp X.K F3 H3 F3 (upd H3 a (.lst (vs.set j v))) := .own h nf
    refine ⟨a, vs, _, j, rfl, rfl, h, by rw [r.length]; exact ej, f F3 _ σ ⟨I3.g0, ⟨I3.ext.mono, I3.ext.new, fun b u n t q => ?_, fun b ps q => ?tb⟩, ⟨fun b fb z => ?_, fun b eb => ?_, tabs_upd G3.tabs h trivial, fun b ps fb z => ?nt⟩, ⟨fun i s e => ?_, I3.er.apart, I3.er.len⟩⟩ (k3.trans kp)⟩
    case tb =>
      obtain ⟨more, e3⟩ := I3.ext.tbl b ps q
      exact ⟨more, by rw [upd_ne (fun z => by rw [z, h] at e3; cases e3)]; exact e3⟩
    case nt =>
      rw [upd_ne (fun z : b = a => nf (by rw [← z]; exact fb))] at z; exact G3.nt b ps fb z
    · rw [upd_ne (fun z => n (by rw [z]; exact eh))]; exact I3.ext.keep b u n t q
    · rw [upd_ne (fun z : b = a => nf (by rw [← z]; exact fb))] at z; exact G3.fin b fb z
    · rw [eh] at eb
      cases eb
      exact ⟨nf, _, upd_same, by rw [List.length_set]; exact z, (r.set ((r1.mono (I1.gi.kp x2)).mono (I2.gi.kp x3)) j).mono kp⟩
    · have q := I3.er.at_ i s e
      generalize ew : σ[i]? = w at q
      cases q with
      | un => exact .un _
      | fz r => exact .fz (r.mono kp)
      | ow f n k o' =>
        rename_i b p'
        have hb : b ≠ a := fun z => n (by rw [z]; exact eh)
        refine .ow f n k ?_
        cases o' with
        | lst h z r => exact .lst (by rw [upd_ne hb]; exact h) z (r.mono kp)
        | dK h z k r => exact .dK (by rw [upd_ne hb]; exact h) z k (r.mono kp)
        | dT h z k r => exact .dT (by rw [upd_ne hb]; exact h) z k (r.mono kp)
/-- y = x.pop() -/
def sPop (i j : Nat) : SM := fun ρ => do
  let l ← ownL ρ[i]?
  let p ← liftO l[l.length - 1]?
  pure (.nx ((ρ.set i (.ow (.lst l.dropLast))).set j (.fz p)))
theorem pop_w (D : Ends) (σ : L2.St) (H : Hp) (h : tSS X.K W (sPop i j) D σ H) : tAsg (tBM0 X.K "list" rPop (tVar i)) (gName j) D σ H := by
  obtain ⟨ah, F0, H0, F, ρ, hs, out, hs', I, q, f⟩ := h
  obtain ⟨l, h1, q1, q⟩ := M.bind_ok q
  obtain ⟨p, h2, q2, q⟩ := M.bind_ok q
  cases M.pure_ok q
  obtain ⟨e, e'⟩ := ownL_ok q1
  subst e'
  obtain ⟨ep, e'⟩ := M.lift_ok q2
  cases e'
  obtain ⟨a, vs, ea, nf, na, n0, h, z, r⟩ := I.er.ownL e
  obtain ⟨I2, k2⟩ := I.updL (vs := vs.dropLast) (ps := l.dropLast) e ea nf na n0 h (by rw [List.length_dropLast]; omega) r.dropLast
  obtain ⟨v, ev, rv⟩ := r.get ep
  refine ⟨_, ea, tyV_lst h, a, vs, v, rfl, rfl, h, by rw [r.length]; exact ev, ?_⟩
  exact f F _ _ ⟨I2.g0, I2.ext, I2.gi, I2.er.setF (rv.mono k2)⟩ k2
end
end SL

end
section
namespace SL
open PySem PySem.Spec PyProof.Rows L2
variable [Tbs]
/-! ### a def that hands back a new thing -/
def spF (K : Fg) (n : Nat) (m : List PV → M PV) : Sp := fun vs H Q _ => vs.length = n ∧ ∃ ah F ps hs p hs', GI K ah F H hs ∧ Reps K ah F H vs ps ∧ m ps hs = .ok (p, hs') ∧
  ∀ F' H' a, Ext K ah F H F' H' → GI K ah F' H' hs' → H a = none → ¬ F' a → Own K ah F' H' a p → Q (.ref a) H'
def KnownF (P : Program) (w : World) (K : Fg) (mg : Str → Option Value) (base : Heap) (x : Str) (n k : Nat) (m : List PV → M PV) : Prop :=
  ∃ f fd ps, mg x = some (.ref f) ∧ PySem.W.keepIn K (.ref f) = true ∧ L2.Binds K fd ps [] ∧ FnOk P w K mg base CX0 k f fd ps (spF K n m)
def fnF (nl : Nat) (g : SM) : List PV → M PV := fun ps => do
  let o ← g (ev0 nl ps)
  match o with
  | .rtF p => pure p
  | _ => stuck
section
variable {X : Cx} {e a b c : Expr} {es rest : List Expr} {p pos : Pos} {g ga gb gc : EM} {gs : Ev → M (List PV)} {x : Str} {n k : Nat} {m : List PV → M PV}
theorem sf_call (h : KnownF X.prog X.w X.K X.mg X.base x n k m) (hr : Room k X.A) (ha : SA X (e :: es) gs) (hn : Rows gs n) (hg : Gl X x := by rfl) (hdb : (x == ("__debug__" : Str)) = false := by decide)
    (he : starEach (e :: es) X.env = (false, eval e X.env) :: starEach es X.env := by rfl) (hpl : (backTo pos (starEach es X.env)).any (·.1) = false := by rfl) : SF X (.Call (.Name x p) (e :: es) [] pos) (gB m gs) := by
  obtain ⟨f, fd, ps, hm, hk, hb, F⟩ := h
  refine PE.wk (pe_call F hr hg hm hk hb pass0 ha hdb he hpl) fun σ H Q ⟨ah, F, N, ρ, hs, p, hs', G, E, q, k⟩ => ?_
  obtain ⟨x, h1, q1, q⟩ := M.bind_ok q
  refine ⟨ah, F, N, ρ, hs, x, h1, G, E, q1, fun F1 H1 v1 x1 G1 r1 => ?_⟩
  refine ⟨?_, ah, F1, x, h1, p, hs', G1, ?_, q, fun F2 H2 a x2 G2 n nf o => k F2 H2 a (x1.trans G G1 x2) G2 (x1.free G n (G1.ne n)) nf o⟩
  · rw [r1.length]; exact hn _ _ _ _ q1
  · exact r1
end
section
variable {P : Program} {w : World} {K : PySem.W.Frag} {mg : Str → Option Value} {base : Heap}
theorem ok_fnF {x qual : Str} {st : Stmt} {f : Addr} {fd : FuncData} {Ns ps : List Str} {k : Nat} {g : SM} (Fu : Fun K x qual st f fd) (S : FnScope Ns ps (defScope st))
    (hb : ∀ (cdv : Value) (A : Around) (outer : List Env) (s : Shared) (H : Hp) (E : XK), Room k (A.deeper (envOfC qual (defScope st) s.heap.objs.size f cdv)) → SSs (cxOf CX0 P w K mg base Ns qual (defScope st) f cdv A outer s H E).nox noW (defBody st) g) :
    FnOk P w K mg base CX0 (k + 1) f fd ps (spF K ps.length (fnF Ns.length g)) := by
  refine okF Fu S (fun vs H Q E h => h.1) fun cdv A outer s H vs Q E hr h => ⟨_, hb cdv A outer s H E hr, ?_⟩
  obtain ⟨hl, ah, F, qs, hs, p, hs', G, r, q, k⟩ := h
  obtain ⟨o, h1, q1, q⟩ := M.bind_ok q
  refine ⟨ah, F, H, F, ev0 Ns.length qs, hs, o, h1, ⟨⟨hs, G⟩, .refl, G, er_start r⟩, q1, ?_⟩
  cases o with
  | rtF p => cases M.pure_ok q; exact fun F' H' a x' G' n nf o => k F' H' a x' G' n nf o
  | _ => cases q
theorem knownF {x qual : Str} {st : Stmt} {f : Addr} {fd : FuncData} {Ns ps : List Str} {k n : Nat} {g : SM} (hm : mg x = some (.ref f)) (Fu : Fun K x qual st f fd) (b : L2.Binds K fd ps []) (S : FnScope Ns ps (defScope st)) (hn : ps.length = n)
    (hb : ∀ (cdv : Value) (A : Around) (outer : List Env) (s : Shared) (H : Hp) (E : XK), Room k (A.deeper (envOfC qual (defScope st) s.heap.objs.size f cdv)) → SSs (cxOf CX0 P w K mg base Ns qual (defScope st) f cdv A outer s H E).nox noW (defBody st) g) :
    KnownF P w K mg base x n (k + 1) (fnF Ns.length g) := ⟨f, fd, ps, hm, Fu.kp, b, by rw [← hn]; exact ok_fnF Fu S hb⟩
end

/-! ### the law's hand comes -/
mutual
theorem Rep.hd {K : Fg} {ah : Ax} {F : Addr → Prop} {H : Hp} : ∀ {v : V} {p : PV}, Rep K ⟨none⟩ F H v p → Rep K ah F H v p
  | _, _, .non => .non
  | _, _, .bl b => .bl b
  | _, _, .int i => .int i
  | _, _, .str x => .str x
  | _, _, .ty n => .ty n
  | _, _, .hand e => by cases e
  | _, _, .lam h c => .lam h c
  | _, _, .fn => .fn
  | _, _, .exc => .exc
  | _, _, .exd h => .exd h
  | _, _, .tup h z r => .tup h z (Reps.hd r)
  | _, _, .ptp h d z r => .ptp h d z (Reps.hd r)
  | _, _, .lst f h z r => .lst f h z (Reps.hd r)
  | _, _, .scr h z => .scr h z
  | _, _, .dK f h z e r => .dK f h z e (Reps.hd r)
  | _, _, .dT f h z e r => .dT f h z e (Reps.hd r)
theorem Reps.hd {K : Fg} {ah : Ax} {F : Addr → Prop} {H : Hp} : ∀ {vs : List V} {ps : List PV}, Reps K ⟨none⟩ F H vs ps → Reps K ah F H vs ps
  | _, _, .nil => .nil
  | _, _, .cons r t => .cons (Rep.hd r) (Reps.hd t)
end
def noOwn (i : Nat) (ρ : Ev) : Bool := (List.range ρ.length).all fun j => j == i || match ρ[j]? with
  | some (.ow _) => false
  | _ => true
theorem noOwn_ok {i j : Nat} {ρ : Ev} {p : PV} (h : noOwn i ρ = true) (e : ρ[j]? = some (.ow p)) : j = i := by
  unfold noOwn at h
  rw [List.all_eq_true] at h
  have hlt : j < ρ.length := (List.getElem?_eq_some_iff.mp e).1
  have q := h j (List.mem_range.mpr hlt)
  rw [e] at q
  simpa using q
/-- slot i holds the hand from here on -/
def sHand (i : Nat) (g : SM) : SM := fun ρ => do
  let l ← ownL ρ[i]?
  guardM (noOwn i ρ = true) (do
    set l
    let o ← g (ρ.set i (.fz .hand))
    match o with
    | .rt (.bl b) => pure (.rt (.bl b))
    | _ => stuck)
/-- outside: no hand -/
def tSN (K : Fg) (g : SM) : TS := fun D σ H => ∃ F0 H0 F ρ hs out hs', SInv K ⟨none⟩ F0 H0 F H σ ρ hs ∧ g ρ hs = .ok (out, hs') ∧ Fin K ⟨none⟩ F0 H0 F H D noW hs' out
theorem sss_hand {X : Cx} {sts : List Stmt} {g : SM} (i : Nat) (h : SSs X noW sts g) : PSs X sts (tSN X.K (sHand i g)) := PSs.wk h fun D σ H ⟨F0, H0, F, ρ, hs, out, hs', I, q, f⟩ => by
  obtain ⟨l, h1, q1, qa⟩ := M.bind_ok q
  obtain ⟨hno, qb⟩ := guard_ok qa
  obtain ⟨u, h2, q2, qc⟩ := M.bind_ok qb
  cases M.set_ok q2
  obtain ⟨o, h3, q3, qd⟩ := M.bind_ok qc
  obtain ⟨e, e'⟩ := ownL_ok q1
  subst e'
  obtain ⟨a, vs, ea, nf, na, n0, h, z, r⟩ := I.er.ownL e
  have hlt : i < ρ.length := (List.getElem?_eq_some_iff.mp e).1
  have G1 : GI X.K ⟨some a⟩ F H l := ⟨I.gi.fin, fun b eb => by cases eb; exact ⟨nf, vs, h, z, r.hd⟩, I.gi.tabs, I.gi.nt⟩
  have no : ∀ {j : Nat} {p : PV}, (ρ.set i (.fz .hand))[j]? = some (.ow p) → False := fun {j p} ej => by
    by_cases hj : i = j
    · subst hj
      rw [List.getElem?_set_self hlt] at ej; cases ej
    · rw [List.getElem?_set_ne hj] at ej
      exact hj (noOwn_ok hno ej).symm
  refine ⟨⟨some a⟩, F, H, F, ρ.set i (.fz .hand), l, o, h3, ⟨⟨l, G1⟩, .refl, G1, ⟨fun j s ej => ?_, fun j k p q ne e1 e2 => (no e1).elim, by rw [List.length_set]; exact I.er.len⟩⟩, q3, ?_⟩
  · by_cases hj : i = j
    · subst hj
      rw [List.getElem?_set_self hlt] at ej
      cases ej
      rw [ea]
      exact .fz (.hand rfl)
    · have ej' := ej
      rw [List.getElem?_set_ne hj] at ej
      have q := I.er.at_ j s ej
      generalize ew : σ[j]? = w at q
      cases q with
      | un => exact .un _
      | fz r => exact .fz r.hd
      | ow f n k o' => exact (no ej').elim
  · split at qd
    · cases M.pure_ok qd
      refine fun F' H' v x' G' r' => f F' H' v ⟨fun b fb => x'.mono b (I.ext.mono b fb), fun b fb => ?_, fun b u _ t hb => ?_, fun b ps hb => ?tb⟩ ⟨G'.fin, fun b eb => (by cases eb), G'.tabs, G'.nt⟩ ?_
      case tb =>
        obtain ⟨m1, e1⟩ := I.ext.tbl b ps hb
        obtain ⟨m2, e2⟩ := x'.tbl b _ e1
        exact ⟨m1 ++ m2, by rw [e2, Array.append_assoc]⟩
      · rcases x'.new b fb with k | k
        · exact I.ext.new b k
        · exact .inr (I.new k)
      · refine x'.keep b u (fun z => ?_) t (I.ext.keep b u (by simp) t hb)
        cases z
        rw [n0] at hb; cases hb
      · cases r'; exact .bl _
    · cases qd
/-- the law -/
def spN (K : Fg) (m : List PV → M PV) : Sp := fun vs H Q _ => vs.length = 1 ∧ ∃ F ps p hs', GI K ⟨none⟩ F H [] ∧ Reps K ⟨none⟩ F H vs ps ∧ m ps [] = .ok (p, hs') ∧
  ∀ F' H' v, Ext K ⟨none⟩ F H F' H' → GI K ⟨none⟩ F' H' hs' → Rep K ⟨none⟩ F' H' v p → Q v H'
section
variable {P : Program} {w : World} {K : PySem.W.Frag} {mg : Str → Option Value} {base : Heap}
/-- the law's body: hand = .. ahead, then what is told by s2 -/
theorem ok_law {x qual : Str} {st s0 : Stmt} {sts : List Stmt} {f : Addr} {fd : FuncData} {Ns : List Str} {k : Nat} {g s2 : SM} (i : Nat) (Fu : Fun K x qual st f fd) (S : FnScope Ns ["script"] (defScope st)) (hd : defBody st = s0 :: sts)
    (h1 : ∀ (cdv : Value) (A : Around) (outer : List Env) (s : Shared) (H : Hp) (E : XK), Room k (A.deeper (envOfC qual (defScope st) s.heap.objs.size f cdv)) → SS (cxOf CX0 P w K mg base Ns qual (defScope st) f cdv A outer s H E).nox noW s0 g)
    (h2 : ∀ (cdv : Value) (A : Around) (outer : List Env) (s : Shared) (H : Hp) (E : XK), Room k (A.deeper (envOfC qual (defScope st) s.heap.objs.size f cdv)) → SSs (cxOf CX0 P w K mg base Ns qual (defScope st) f cdv A outer s H E).nox noW sts s2) :
    FnOk P w K mg base CX0 (k + 1) f fd ["script"] (spN K (fnM Ns.length (sSeq g (sHand i s2)))) := by
  refine okF Fu S (fun vs H Q E h => h.1) fun cdv A outer s H vs Q E hr h => ⟨_, by rw [hd]; exact pss_cons (h1 cdv A outer s H E hr) (sss_hand i (h2 cdv A outer s H E hr)), ?_⟩
  obtain ⟨hl, F, qs, p, hs', G, r, q, k⟩ := h
  obtain ⟨o, h3, q1, q⟩ := M.bind_ok q
  obtain ⟨o1, h4, q2, q3⟩ := M.bind_ok q1
  refine ⟨⟨none⟩, F, H, F, ev0 Ns.length qs, [], o1, h4, ⟨⟨[], G⟩, .refl, G, er_start r⟩, q2, ?_⟩
  have fin : Fin K ⟨none⟩ F H F H { nx := fun _ H' => Q .non H', rt := Q } noW h3 o := by
    cases o with
    | nx ρ => cases M.pure_ok q; exact fun F' H' σ' I' _ => k F' H' _ I'.ext I'.gi .non
    | rt p => cases M.pure_ok q; exact fun F' H' v x' G' r' => k F' H' v x' G' r'
    | _ => cases q
  cases o1 with
  | nx ρ1 => exact fun F1 H1 σ1 I1 k1 => ⟨F, H, F1, ρ1, h4, o, h3, I1, q3, fin.kp k1⟩
  | rt p1 => cases M.pure_ok q3; exact fin
  | rtF p1 => cases M.pure_ok q3; exact fin
  | bk ρ1 => cases M.pure_ok q3; cases q
  | ct ρ1 => cases M.pure_ok q3; cases q
  | ex c => cases M.pure_ok q3; cases q
end
theorem law_sp0 {K : Fg} {m : List PV → M PV} {H : Hp} {a : Addr} {ns : List Int} {E : XK} (hl : ns.length ≤ 63) (hT : LamX.Tabs Tbs.tb H) (hO : (∃ o xs, H a = some (.frz o (.lst xs))) ∨ H a = none) (hS : SqL K H a (ns.map V.int)) (hm : ∃ hs', m [.scr ns] [] = .ok (.bl true, hs')) : spN K m [.ref a] H (fun v _ => v = .bl true) E := by
  obtain ⟨hs', hm⟩ := hm
  refine ⟨rfl, fun _ => False, [.scr ns], .bl true, hs', ⟨fun _ f => f.elim, fun b e => (by cases e), hT, fun _ _ f => f.elim⟩, .cons (.scr ?_ (by rw [szE]; show ns.length ≤ 16777216; omega)) .nil, hm, fun F' H' v _ _ r => by cases r; rfl⟩
  rcases hS with (h | h) | h
  · rcases hO with ⟨o, xs, z⟩ | z
    · rw [z] at h; cases h
    · rw [z] at h; cases h
  · exact .inr (.inl h)
  · exact .inr (.inr h)
theorem law_sp {K : Fg} {m : List PV → M PV} {H : Hp} {a : Addr} {ns : List Int} {E : XK} (h0 : Tbs.tb = []) (hl : ns.length ≤ 63) (hO : Only H) (hS : SqL K H a (ns.map V.int)) (hm : ∃ hs', m [.scr ns] [] = .ok (.bl true, hs')) : spN K m [.ref a] H (fun v _ => v = .bl true) E :=
  law_sp0 hl (fun p hp => by rw [h0] at hp; cases hp) ((hO a).elim .inr fun ⟨o, xs, z⟩ => .inl ⟨o, xs, z⟩) hS hm
end SL

end
section
namespace SL
open PySem PySem.Spec PyProof.Rows L2
variable [Tbs]
def gNeg (ga : EM) : EM := fun ρ => do
    let x ← ga ρ
    match x with
    | .int i => pure (.int (-i))
    | _ => stuck
section
variable {X : Cx} {e a b c : Expr} {es rest : List Expr} {p p1 p2 p3 pos : Pos} {g ga gb gc gi : EM} {gs : Ev → M (List PV)} {x y : Str} {W : EW}
/-! ### builtins by name -/
theorem se_len (hm : X.mg "len" = none) (ha : SAB X (e :: es) gs) (hg : Gl X "len" := by rfl) (he : starEach (e :: es) X.env = (false, eval e X.env) :: starEach es X.env := by rfl) (hpl : (backTo pos (starEach es X.env)).any (·.1) = false := by rfl) : SE X (.Call (.Name "len" p) (e :: es) [] pos) (gB pLen gs) :=
  se_B cs_len (pe_callB call_len_seq hg hm PySem.boot_len ha (by decide) (by decide) he hpl)
theorem se_abs (hm : X.mg "abs" = none) (ha : SAB X (e :: es) gs) (hg : Gl X "abs" := by rfl) (he : starEach (e :: es) X.env = (false, eval e X.env) :: starEach es X.env := by rfl) (hpl : (backTo pos (starEach es X.env)).any (·.1) = false := by rfl) : SE X (.Call (.Name "abs" p) (e :: es) [] pos) (gB pAbs gs) :=
  se_B cs_abs (pe_callB call_abs hg hm (by decide +kernel) ha (by decide) (by decide) he hpl)
theorem se_intc (hm : X.mg "int" = none) (ha : SAB X (e :: es) gs) (hg : Gl X "int" := by rfl) (he : starEach (e :: es) X.env = (false, eval e X.env) :: starEach es X.env := by rfl) (hpl : (backTo pos (starEach es X.env)).any (·.1) = false := by rfl) : SE X (.Call (.Name "int" p) (e :: es) [] pos) (gB pInt gs) :=
  se_B cs_int (pe_callTy call_int1 hg hm (by decide +kernel) ha (by decide) (by decide) he hpl)
theorem se_tuplec (hm : X.mg "tuple" = none) (ha : SAB X (e :: es) gs) (hg : Gl X "tuple" := by rfl) (he : starEach (e :: es) X.env = (false, eval e X.env) :: starEach es X.env := by rfl) (hpl : (backTo pos (starEach es X.env)).any (·.1) = false := by rfl) : SE X (.Call (.Name "tuple" p) (e :: es) [] pos) (gB pTuple gs) :=
  se_B cs_tuple (pe_callTy call_tuple_of hg hm (by decide +kernel) ha (by decide) (by decide) he hpl)
theorem sf_listc (hm : X.mg "list" = none) (ha : SAB X (e :: es) gs) (hg : Gl X "list" := by rfl) (he : starEach (e :: es) X.env = (false, eval e X.env) :: starEach es X.env := by rfl) (hpl : (backTo pos (starEach es X.env)).any (·.1) = false := by rfl) : SF X (.Call (.Name "list" p) (e :: es) [] pos) (gB pList gs) :=
  sf_B cf_list (pe_callTy call_list_of hg hm (by decide +kernel) ha (by decide) (by decide) he hpl)
theorem se_all (hm : X.mg "all" = none) (ha : SAB X (e :: es) gs) (hc : X.calm = true := by rfl) (hg : Gl X "all" := by rfl) (he : starEach (e :: es) X.env = (false, eval e X.env) :: starEach es X.env := by rfl) (hpl : (backTo pos (starEach es X.env)).any (·.1) = false := by rfl) : SE X (.Call (.Name "all" p) (e :: es) [] pos) (gB pAll gs) :=
  se_B cs_all (pe_callB (cr_all hc) hg hm (by decide +kernel) ha (by decide) (by decide) he hpl)
theorem se_any (hm : X.mg "any" = none) (ha : SAB X (e :: es) gs) (hc : X.calm = true := by rfl) (hg : Gl X "any" := by rfl) (he : starEach (e :: es) X.env = (false, eval e X.env) :: starEach es X.env := by rfl) (hpl : (backTo pos (starEach es X.env)).any (·.1) = false := by rfl) : SE X (.Call (.Name "any" p) (e :: es) [] pos) (gB pAny gs) :=
  se_B cs_any (pe_callB (cr_any hc) hg hm (by decide +kernel) ha (by decide) (by decide) he hpl)
theorem se_sum (hm : X.mg "sum" = none) (ha : SAB X (e :: es) gs) (hc : X.calm = true := by rfl) (hg : Gl X "sum" := by rfl) (he : starEach (e :: es) X.env = (false, eval e X.env) :: starEach es X.env := by rfl) (hpl : (backTo pos (starEach es X.env)).any (·.1) = false := by rfl) : SE X (.Call (.Name "sum" p) (e :: es) [] pos) (gB pSum gs) :=
  se_B cs_sum (pe_callB (cr_sum hc) hg hm (by decide +kernel) ha (by decide) (by decide) he hpl)
theorem se_max2 (hm : X.mg "max" = none) (ha : SAB X (e :: es) gs) (hc : X.calm = true := by rfl) (hg : Gl X "max" := by rfl) (he : starEach (e :: es) X.env = (false, eval e X.env) :: starEach es X.env := by rfl) (hpl : (backTo pos (starEach es X.env)).any (·.1) = false := by rfl) : SE X (.Call (.Name "max" p) (e :: es) [] pos) (gB pMax2 gs) :=
  se_B cs_max2 (pe_callB (call_max2 hc) hg hm (by decide +kernel) ha (by decide) (by decide) he hpl)
theorem se_min2 (hm : X.mg "min" = none) (ha : SAB X (e :: es) gs) (hc : X.calm = true := by rfl) (hg : Gl X "min" := by rfl) (he : starEach (e :: es) X.env = (false, eval e X.env) :: starEach es X.env := by rfl) (hpl : (backTo pos (starEach es X.env)).any (·.1) = false := by rfl) : SE X (.Call (.Name "min" p) (e :: es) [] pos) (gB pMin2 gs) :=
  se_B cs_min2 (pe_callB (call_min2 hc) hg hm (by decide +kernel) ha (by decide) (by decide) he hpl)
/-- a built-in class named -/
theorem cl_int (hm : X.mg "int" = none) (hg : Gl X "int" := by rfl) : PE X (.Name "int" pos) (tC (.ty Cl.int.name)) := pe_bltn hg hm (u := .type "int") (by decide +kernel) rfl
theorem cl_bool (hm : X.mg "bool" = none) (hg : Gl X "bool" := by rfl) : PE X (.Name "bool" pos) (tC (.ty Cl.bool.name)) := pe_bltn hg hm (u := .type "bool") (by decide +kernel) rfl
theorem cl_str (hm : X.mg "str" = none) (hg : Gl X "str" := by rfl) : PE X (.Name "str" pos) (tC (.ty Cl.str.name)) := pe_bltn hg hm (u := .type "str") (by decide +kernel) rfl
theorem cl_tuple (hm : X.mg "tuple" = none) (hg : Gl X "tuple" := by rfl) : PE X (.Name "tuple" pos) (tC (.ty Cl.tuple.name)) := pe_bltn hg hm (u := .type "tuple") (by decide +kernel) rfl
theorem cl_list (hm : X.mg "list" = none) (hg : Gl X "list" := by rfl) : PE X (.Name "list" pos) (tC (.ty Cl.list.name)) := pe_bltn hg hm (u := .type "list") (by decide +kernel) rfl
theorem cl_dict (hm : X.mg "dict" = none) (hg : Gl X "dict" := by rfl) : PE X (.Name "dict" pos) (tC (.ty Cl.dict.name)) := pe_bltn hg hm (u := .type "dict") (by decide +kernel) rfl
/-- a module's constant -/
theorem se_ci {i : Int} (hm : ∃ t, X.mg x = some (.int i t)) (hg : Gl X x := by rfl) (hd : (x == ("__debug__" : Str)) = false := by decide) : SE X (.Name x pos) (gC (.int i)) := by
  obtain ⟨t, hm⟩ := hm
  exact se_gint hm hg hd
theorem se_cs {i : Str} (hm : ∃ t, X.mg x = some (.str i t)) (hg : Gl X x := by rfl) (hd : (x == ("__debug__" : Str)) = false := by decide) : SE X (.Name x pos) (gC (.str i)) := by
  obtain ⟨t, hm⟩ := hm
  exact se_gstr hm hg hd
/-! ### statements over own lists -/
theorem ss_app {i : Nat} (hx : PE X (.Name x p) (tVar i)) (he : SE X e g) (hs : swapsWith (.Call (.Attribute (.Name x p) "append" p1) [e] [] p2) none pos.line X.env = pure false := by rfl)
    (hbase : attributeBase (.Name x p) "append" X.env (eval (.Name x p) X.env) = eval (.Name x p) X.env := by rfl)
    (hfew : ((backTo p2 (starEach [e] X.env)).all (fun x => !x.1) && (backToKw p2 (keywordEach [] X.env)).all (fun x => x.1.isSome) && decide (([e] : List Expr).length + ([] : List Keyword).length + (if ([] : List Keyword).isEmpty then 0 else 1) < 30)) = true := by rfl)
    (hline : (p1.endLine == p2.line) = true := by rfl) (h1 : starEach [e] X.env = (false, eval e X.env) :: starEach [] X.env := by rfl) : SS X W (.Expr (.Call (.Attribute (.Name x p) "append" p1) [e] [] p2) pos) (sApp i g) :=
  PS.wk (ps_expr (pe_bm PySem.F.plainAttrs_list PySem.F.slot_list_append PySem.F.type_list_append mt_append hx (pa_cons he pa_nil h1) hbase hfew hline h1) hs) app_w
theorem ss_ext {i : Nat} (hx : PE X (.Name x p) (tVar i)) (he : SE X e g) (hs : swapsWith (.Call (.Attribute (.Name x p) "extend" p1) [e] [] p2) none pos.line X.env = pure false := by rfl)
    (hbase : attributeBase (.Name x p) "extend" X.env (eval (.Name x p) X.env) = eval (.Name x p) X.env := by rfl)
    (hfew : ((backTo p2 (starEach [e] X.env)).all (fun x => !x.1) && (backToKw p2 (keywordEach [] X.env)).all (fun x => x.1.isSome) && decide (([e] : List Expr).length + ([] : List Keyword).length + (if ([] : List Keyword).isEmpty then 0 else 1) < 30)) = true := by rfl)
    (hline : (p1.endLine == p2.line) = true := by rfl) (h1 : starEach [e] X.env = (false, eval e X.env) :: starEach [] X.env := by rfl) : SS X W (.Expr (.Call (.Attribute (.Name x p) "extend" p1) [e] [] p2) pos) (sExt i g) :=
  PS.wk (ps_expr (pe_bm PySem.F.plainAttrs_list PySem.F.slot_list_extend PySem.F.type_list_extend mt_extend hx (pa_cons he pa_nil h1) hbase hfew hline h1) hs) ext_w
theorem ss_pop {i j : Nat} (hx : PE X (.Name x p) (tVar i)) (hy : PG X (.Name y p3) (gName j)) (hbase : attributeBase (.Name x p) "pop" X.env (eval (.Name x p) X.env) = eval (.Name x p) X.env := by rfl) (hline : (p1.endLine == p2.line) = true := by rfl)
    (hs : swapsWithSole [.Name y p3] (.Call (.Attribute (.Name x p) "pop" p1) [] [] p2) pos.line X.env = pure false := by rfl) (hw : swappedStores [.Name y p3] (.Call (.Attribute (.Name x p) "pop" p1) [] [] p2) X.env = pure none := by rfl)
    (h1 : (assignEach [.Name y p3] X.env).map (·.2) = [assign (.Name y p3) X.env] := by rfl) : SS X W (.Assign [.Name y p3] (.Call (.Attribute (.Name x p) "pop" p1) [] [] p2) pos) (sPop i j) :=
  PS.wk (ps_asg (pe_bm0 PySem.F.plainAttrs_list PySem.F.slot_list_pop PySem.F.type_list_pop mt_pop hx hbase hline) hy hs hw h1) pop_w
theorem ss_set {i : Nat} (hx : PE X (.Name x p) (tVar i)) (hi : SE X a gi) (he : SE X e g) (hs : swapsWithSole [.Subscript (.Name x p) a p1] e pos.line X.env = pure false := by rfl) (hw : swappedStores [.Subscript (.Name x p) a p1] e X.env = pure none := by rfl)
    (h1 : (assignEach [.Subscript (.Name x p) a p1] X.env).map (·.2) = [assign (.Subscript (.Name x p) a p1) X.env] := by rfl)
    (ha : ∀ v, assign (.Subscript (.Name x p) a p1) X.env v = (do
      let ov ← holding [v] (eval (.Name x p) X.env)
      let iv ← holding [v, ov] (eval a X.env)
      standAt p1
      holding [v, ov, iv] (setItem ov iv v)
      release [v, ov, iv] []) := by intro _; rfl) : SS X W (.Assign [.Subscript (.Name x p) a p1] e pos) (sSet i gi g) := PS.wk (ps_asg he (pg_sub hx hi set_list ha) hs hw h1) set_w
theorem ss_seth {go : EM} (hx : SE X (.Name x p) go) (hi : SE X a gi) (he : SE X e g) (hs : swapsWithSole [.Subscript (.Name x p) a p1] e pos.line X.env = pure false := by rfl) (hw : swappedStores [.Subscript (.Name x p) a p1] e X.env = pure none := by rfl)
    (h1 : (assignEach [.Subscript (.Name x p) a p1] X.env).map (·.2) = [assign (.Subscript (.Name x p) a p1) X.env] := by rfl)
    (ha : ∀ v, assign (.Subscript (.Name x p) a p1) X.env v = (do
      let ov ← holding [v] (eval (.Name x p) X.env)
      let iv ← holding [v, ov] (eval a X.env)
      standAt p1
      holding [v, ov, iv] (setItem ov iv v)
      release [v, ov, iv] []) := by intro _; rfl) : SS X W (.Assign [.Subscript (.Name x p) a p1] e pos) (sSetH go gi g) := PS.wk (ps_asg he (pg_sub hx hi set_list ha) hs hw h1) seth_w
/-- a, b = e1, e2: plain locals -/
def sPar (i j : Nat) (gs : Ev → M (List PV)) : SM := fun ρ => do
  let ps ← gs ρ
  match ps with
  | [p, q] => pure (.nx ((ρ.set i (.fz p)).set j (.fz q)))
  | _ => stuck
theorem ss_par {i j : Nat} {px py pt : Pos} {kt k2 : Nat} {pt2 : Pos} (hN : X.N.Nodup) (hi : X.N[i]? = some x) (hj : X.N[j]? = some y) (hij : i ≠ j)
    (hx : X.env.scope.names.lookup x = some .local) (hy : X.env.scope.names.lookup y = some .local) (ha : SA X [a, b] gs) (hn : Rows gs 2)
    (hw : swappedStores [.Tuple [.Name x px, .Name y py] kt pt] (.Tuple [a, b] k2 pt2) X.env = pure (some [x, y]))
    (hs : swapsWithSole [.Tuple [.Name x px, .Name y py] kt pt] (.Tuple [a, b] k2 pt2) pos.line X.env = pure false := by rfl) (hc : X.calm = true := by rfl) :
    SS X W (.Assign [.Tuple [.Name x px, .Name y py] kt pt] (.Tuple [a, b] k2 pt2) pos) (sPar i j gs) := PS.wk (ps_par hc hN hi hj hij hx hy ha hw hs) fun D σ H ⟨ah, F0, H0, F, ρ, hs, out, hs', I, q, f⟩ => by
  obtain ⟨ps, h1, q1, q⟩ := M.bind_ok q
  have hl := hn _ _ _ _ q1
  match ps, hl with
  | [p, q'], _ =>
    cases M.pure_ok q
    refine ⟨ah, F, _, ρ, hs, _, _, I.gi, I.er, q1, fun F1 H1 v x1 G1 r1 => ?_⟩
    have I1 := I.step x1 G1
    cases r1 with
    | cons r t =>
      cases t with
      | cons r2 t =>
        cases t
        exact ⟨_, _, rfl, f F1 H1 _ ⟨I1.g0, I1.ext, G1, (I1.er.setF r).setF r2⟩ (I.gi.kp x1)⟩
/-- x = [comprehension], x a plain local: the two are one step -/
theorem ss_ownLc {i : Nat} {py spos : Pos} {elt tg iter : Expr} {ifs : List Expr} {scope : Scope} {own : List (Str × Nat)} {gi : IM} {gt : GM} {tt : TM} {ge : EM} {is : List Nat} (hN : X.N.Nodup) (ok : BlkOk X.N X.env.scope scope own)
    (hi : SI X tg iter gi) (hg : ∀ (s : Shared) (H : Hp) (C : Addr) (cl : List (Str × Addr)) (fp : List Addr), SG (X.blk s H scope (compEnvC scope cl C X.env) fp) tg gt is) (ht : ∀ (s : Shared) (H : Hp) (C : Addr) (cl : List (Str × Addr)) (fp : List Addr), STs (X.blk s H scope (compEnvC scope cl C X.env) fp) ifs tt)
    (he : ∀ (s : Shared) (H : Hp) (C : Addr) (cl : List (Str × Addr)) (fp : List Addr), SE (X.blk s H scope (compEnvC scope cl C X.env) fp) elt ge)
    (hy : X.N[i]? = some y) (hyl : X.env.scope.names.lookup y = some .local) (hsw : swapsWith (.ListComp elt [⟨tg, iter, ifs, 0⟩] scope pos) (some (.Name y py)) spos.line X.env = pure true) (hc : X.calm = true := by rfl) (hv : ∀ i ∈ is, i ∈ own.map (·.2) := by decide) (hs : ∀ x, foldedSetIterable iter X.env x = pure x := by intro _; rfl) :
    SS X W (.Assign [.Name y py] (.ListComp elt [⟨tg, iter, ifs, 0⟩] scope pos) spos) (sOwn (gLc gi gt tt ge (own.map (·.2))) i) := PS.wk (ps_setLc hc hN hy hyl hsw hi ok hg ht he hs) (own_w (lc_w hv))
theorem sFz_w {te : TE} (w : ∀ σ H Q, tSF X.K g σ H Q → te σ H Q) (σ : L2.St) (H : Hp) (Q : VK) (h : tS X.K g σ H Q) : te σ H Q := by
  obtain ⟨ah, F, N, ρ, hs, p, hs', G, E, q, k⟩ := h
  refine w σ H Q ⟨ah, F, N, ρ, hs, p, hs', G, E, q, fun F' H' a x y n nf o => ?_⟩
  obtain ⟨u, hu⟩ := o.there
  exact k (fun b => F' b ∨ b = a) H' (.ref a) ⟨fun b h => .inl (x.mono b h), fun b h => h.elim (x.new b) fun e => .inr (e ▸ n), x.keep, x.tbl⟩ (y.frz hu (G.ne n)) o.frzn
theorem gname_w {te : TE} {i : Nat} (D : Ends) (σ : L2.St) (H : Hp) (w : ∀ σ H Q, tS X.K g σ H Q → te σ H Q) (h : tSS X.K W (sAsg g (tgName i)) D σ H) : tAsg te (gName i) D σ H := by
  obtain ⟨ah, F0, H0, F, ρ, hs, out, hs', I, q, f⟩ := h
  obtain ⟨p, h1, q1, q⟩ := M.bind_ok q
  obtain ⟨ρ1, h2, q2, q⟩ := M.bind_ok q
  cases M.pure_ok q
  cases M.pure_ok q2
  refine w σ H _ ⟨ah, F, _, ρ, hs, p, _, I.gi, I.er, q1, fun F1 H1 v x1 G1 r1 => ?_⟩
  have I1 := I.step x1 G1
  exact f F1 H1 _ ⟨I1.g0, I1.ext, G1, I1.er.setF r1⟩ (I.gi.kp x1)
theorem ss_asgLc {i : Nat} {py spos : Pos} {elt tg iter : Expr} {ifs : List Expr} {scope : Scope} {own : List (Str × Nat)} {gi : IM} {gt : GM} {tt : TM} {ge : EM} {is : List Nat} (hN : X.N.Nodup) (ok : BlkOk X.N X.env.scope scope own)
    (hi : SI X tg iter gi) (hg : ∀ (s : Shared) (H : Hp) (C : Addr) (cl : List (Str × Addr)) (fp : List Addr), SG (X.blk s H scope (compEnvC scope cl C X.env) fp) tg gt is) (ht : ∀ (s : Shared) (H : Hp) (C : Addr) (cl : List (Str × Addr)) (fp : List Addr), STs (X.blk s H scope (compEnvC scope cl C X.env) fp) ifs tt)
    (he : ∀ (s : Shared) (H : Hp) (C : Addr) (cl : List (Str × Addr)) (fp : List Addr), SE (X.blk s H scope (compEnvC scope cl C X.env) fp) elt ge)
    (hy : X.N[i]? = some y) (hyl : X.env.scope.names.lookup y = some .local) (hsw : swapsWith (.ListComp elt [⟨tg, iter, ifs, 0⟩] scope pos) (some (.Name y py)) spos.line X.env = pure true) (hc : X.calm = true := by rfl) (hv : ∀ i ∈ is, i ∈ own.map (·.2) := by decide) (hs : ∀ x, foldedSetIterable iter X.env x = pure x := by intro _; rfl) :
    SS X W (.Assign [.Name y py] (.ListComp elt [⟨tg, iter, ifs, 0⟩] scope pos) spos) (sAsg (gLc gi gt tt ge (own.map (·.2))) (tgName i)) := PS.wk (ps_setLc hc hN hy hyl hsw hi ok hg ht he hs) fun D σ H h => gname_w D σ H (sFz_w (lc_w hv)) h
end
/-- a def of the text as the top leaves it -/
def Fn (K : Fg) (mg : Str → Option Value) (x : Str) (st : Stmt) (ps : List Str) : Prop := ∃ f fd, mg x = some (.ref f) ∧ Fun K x x st f fd ∧ L2.Binds K fd ps []
end SL

end
section
namespace SL
open PySem PySem.Spec PyProof.Rows L2
variable [Tbs]
/-! ### reckoning with mirrors -/
section
variable {α β : Type}
theorem stuck_bind (f : α → M β) : ((stuck : M α) >>= f) = stuck := rfl
theorem guardT {c : Prop} [Decidable c] {x : M α} (h : c) : guardM c x = x := if_pos h
theorem liftS (a : α) : (liftO (some a) : M α) = pure a := rfl
theorem liftN : (liftO (none : Option α) : M α) = stuck := rfl
/-- it ends well, and then Q -/
def Ok (x : M α) (Q : α → HS → Prop) (h : HS) : Prop := ∃ a h', x h = .ok (a, h') ∧ Q a h'
theorem Ok.bind {x : M α} {f : α → M β} {Q : β → HS → Prop} {h : HS} (k : Ok x (fun a h1 => Ok (f a) Q h1) h) : Ok (x >>= f) Q h := by
  obtain ⟨a, h1, e, b, h2, e2, q⟩ := k
  refine ⟨b, h2, ?_, q⟩
  show (Except.bind (x h) fun p => f p.1 p.2) = _
  rw [e]
  exact e2
theorem Ok.pure {a : α} {Q : α → HS → Prop} {h : HS} (q : Q a h) : Ok (pure a : M α) Q h := ⟨a, h, rfl, q⟩
theorem Ok.mono {x : M α} {Q R : α → HS → Prop} {h : HS} (k : Ok x Q h) (m : ∀ a h, Q a h → R a h) : Ok x R h := by
  obtain ⟨a, h1, e, q⟩ := k
  exact ⟨a, h1, e, m a h1 q⟩
theorem Ok.bind' {x : M α} {f : α → M β} {P : α → HS → Prop} {Q : β → HS → Prop} {h : HS} (k : Ok x P h) (m : ∀ a h1, P a h1 → Ok (f a) Q h1) : Ok (x >>= f) Q h := Ok.bind (k.mono m)
theorem Ok.get {Q : HS → HS → Prop} {h : HS} (q : Q h h) : Ok (MonadState.get : M HS) Q h := ⟨h, h, rfl, q⟩
theorem Ok.set {x : HS} {Q : PUnit → HS → Prop} {h : HS} (q : Q PUnit.unit x) : Ok (MonadStateOf.set x : M PUnit) Q h := ⟨_, x, rfl, q⟩
theorem Ok.of_eq {x y : M α} {Q : α → HS → Prop} {h : HS} (e : x = y) (k : Ok y Q h) : Ok x Q h := by rw [e]; exact k
end
/-! comprehensions -/
theorem lc_nil {gt : GM} {tt : TM} {ge : EM} {ρ : Ev} : lcF gt tt ge ρ [] = pure [] := rfl
/-- one that draws nothing -/
theorem lc_map {α : Type} {gt : GM} {tt : TM} {ge : EM} {ρ : Ev} {φ : α → PV} {ρ' : α → Ev} {c : α → Bool} {e : α → PV} : ∀ {l : List α}, (∀ x ∈ l, gt (φ x) ρ = pure (ρ' x) ∧ tt (ρ' x) = pure (c x) ∧ (c x = true → ge (ρ' x) = pure (e x))) →
    lcF gt tt ge ρ (l.map φ) = pure ((l.filter c).map e)
  | [], _ => rfl
  | x :: l, h => by
    obtain ⟨h1, h2, h3⟩ := h x List.mem_cons_self
    have ih := lc_map (l := l) fun y hy => h y (List.mem_cons_of_mem _ hy)
    rw [List.map_cons, lcF, h1, pure_bind, h2, pure_bind]
    cases hc : c x with
    | false =>
      rw [if_neg Bool.false_ne_true, ih, List.filter_cons_of_neg (by rw [hc]; exact Bool.false_ne_true)]
    | true =>
      rw [if_pos rfl, h3 hc, pure_bind, ih, pure_bind, List.filter_cons_of_pos hc]
      rfl
theorem lc_all {α : Type} {gt : GM} {ge : EM} {ρ : Ev} {φ : α → PV} {ρ' : α → Ev} {e : α → PV} {l : List α} (h : ∀ x ∈ l, gt (φ x) ρ = pure (ρ' x) ∧ ge (ρ' x) = pure (e x)) :
    lcF gt gYes ge ρ (l.map φ) = pure (l.map e) := by
  rw [lc_map (c := fun _ => true) (ρ' := ρ') (e := e) fun x hx => ⟨(h x hx).1, rfl, fun _ => (h x hx).2⟩, List.filter_eq_self.mpr (fun _ _ => rfl)]
/-- one that draws -/
theorem ok_lc {gt : GM} {ge : EM} {ρ : Ev} {I : HS → Prop} {R : PV → PV → Prop} : ∀ {ps : List PV} {h : HS}, I h → (∀ p ∈ ps, ∀ h, I h → ∃ ρ', gt p ρ = pure ρ' ∧ Ok (ge ρ') (fun y h' => R p y ∧ I h') h) →
    Ok (lcF gt gYes ge ρ ps) (fun ys h' => Paired R ps ys ∧ I h') h
  | [], h, hI, _ => Ok.pure ⟨.nil, hI⟩
  | p :: ps, h, hI, k => by
    obtain ⟨ρ', e, ok⟩ := k p List.mem_cons_self h hI
    rw [lcF, e, pure_bind]
    show Ok (pure true >>= _) _ h
    rw [pure_bind, if_pos rfl]
    refine ok.bind' fun y h1 ⟨hr, h1I⟩ => ?_
    refine (ok_lc h1I fun q hq => k q (List.mem_cons_of_mem _ hq)).bind' fun ys h2 ⟨hp, h2I⟩ => ?_
    exact Ok.pure ⟨.cons hr hp, h2I⟩
/-! loops -/
theorem forF_nil {gt : GM} {gb : SM} {ρ : Ev} : forF gt gb [] ρ = pure (.nx ρ) := rfl
theorem forF_cons {gt : GM} {gb : SM} {ρ : Ev} {p : PV} {ps : List PV} : forF gt gb (p :: ps) ρ = (gt p ρ >>= fun ρ1 => gb ρ1 >>= fun o => match o with
    | .nx ρ' => forF gt gb ps ρ'
    | .ct ρ' => forF gt gb ps ρ'
    | .bk ρ' => pure (.nx ρ')
    | o => pure o) := rfl
theorem ok_for {gt : GM} {gb : SM} {I : Ev → HS → Prop} : ∀ {ps : List PV} {ρ : Ev} {h : HS}, I ρ h → (∀ p ∈ ps, ∀ ρ h, I ρ h → Ok (gt p ρ >>= gb) (fun o h' => ∃ ρ', (o = .nx ρ' ∨ o = .ct ρ') ∧ I ρ' h') h) →
    Ok (forF gt gb ps ρ) (fun o h' => ∃ ρ', o = .nx ρ' ∧ I ρ' h') h
  | [], ρ, h, hI, _ => Ok.pure ⟨ρ, rfl, hI⟩
  | p :: ps, ρ, h, hI, k => by
    rw [forF, ← bind_assoc]
    refine (k p List.mem_cons_self ρ h hI).bind' fun o h1 ⟨ρ', e, h1I⟩ => ?_
    have ih := ok_for h1I fun q hq => k q (List.mem_cons_of_mem _ hq)
    rcases e with rfl | rfl
    · exact ih
    · exact ih
/-- a for that may leave: J holds between turns (with what is left), Q behind -/
theorem for_ind {gt : GM} {gb : SM} {J : List PV → Ev → HS → Prop} {Q : Out → HS → Prop} : ∀ {ps : List PV} {ρ : Ev} {h : HS}, J ps ρ h → (∀ ρ h, J [] ρ h → Q (.nx ρ) h) →
    (∀ p ps ρ h, J (p :: ps) ρ h → Ok (gt p ρ >>= gb) (fun o h' => match o with
      | .nx ρ' => J ps ρ' h'
      | .ct ρ' => J ps ρ' h'
      | .bk ρ' => Q (.nx ρ') h'
      | o => Q o h') h) → Ok (forF gt gb ps ρ) Q h
  | [], ρ, h, j, q, _ => Ok.pure (q ρ h j)
  | p :: ps, ρ, h, j, q, k => by
    rw [forF, ← bind_assoc]
    refine (k p ps ρ h j).bind' fun o h1 z => ?_
    cases o with
    | nx ρ' => exact for_ind z q k
    | ct ρ' => exact for_ind z q k
    | bk ρ' => exact Ok.pure z
    | rt p => exact Ok.pure z
    | rtF p => exact Ok.pure z
    | ex c => exact Ok.pure z
/-- a while by a measure -/
theorem wh_ind {c : TM} {gb : SM} {J : Nat → Ev → HS → Prop} {Q : Out → HS → Prop} : ∀ {n m : Nat} {ρ : Ev} {h : HS}, J m ρ h → m < n →
    (∀ m ρ h, J m ρ h → Ok (c ρ) (fun b h1 => if b = true then Ok (gb ρ) (fun o h' => match o with
      | .nx ρ' => ∃ m', m' < m ∧ J m' ρ' h'
      | .ct ρ' => ∃ m', m' < m ∧ J m' ρ' h'
      | .bk ρ' => Q (.nx ρ') h'
      | o => Q o h') h1 else Q (.nx ρ) h1) h) → Ok (whF c gb n ρ) Q h
  | 0, m, ρ, h, j, hm, k => absurd hm (Nat.not_lt_zero _)
  | n + 1, m, ρ, h, j, hm, k => by
    rw [whF]
    refine (k m ρ h j).bind' fun b h1 z => ?_
    cases b with
    | false => exact Ok.pure (by simpa using z)
    | true =>
      rw [if_pos rfl] at z ⊢
      refine z.bind' fun o h2 z => ?_
      cases o with
      | nx ρ' => obtain ⟨m', hm', j'⟩ := z; exact wh_ind j' (by omega) k
      | ct ρ' => obtain ⟨m', hm', j'⟩ := z; exact wh_ind j' (by omega) k
      | bk ρ' => exact Ok.pure z
      | rt p => exact Ok.pure z
      | rtF p => exact Ok.pure z
      | ex c => exact Ok.pure z
/-- what ends well without drawing is an equation -/
theorem eq_of_ok {α : Type} {x : M α} {a : α} (h : ∀ hs, Ok x (fun b h' => b = a ∧ h' = hs) hs) : x = pure a := by
  funext hs
  obtain ⟨b, h', e, rfl, rfl⟩ := h hs
  exact e
theorem ok_of_eq {α : Type} {x : M α} {a : α} {Q : α → HS → Prop} {h : HS} (e : x = pure a) (q : Q a h) : Ok x Q h := ⟨a, h, by rw [e]; rfl, q⟩
theorem fnM_eq {nl : Nat} {b : SM} {ps : List PV} {p : PV} (h : b (ev0 nl ps) = pure (.rt p)) : fnM nl b ps = pure p := by
  unfold fnM
  rw [h]
  rfl
end SL

end
section
namespace SL
open PySem PySem.Spec PyProof.Rows L2
variable [Tbs]
/-! ### the mirrors' words unfolded by simp -/
section
variable {α β : Type} {Q : α → HS → Prop} {QB : β → HS → Prop} {h x : HS}
@[simp] theorem ok_pure {a : α} : Ok (pure a : M α) Q h ↔ Q a h := ⟨fun ⟨_, _, e, q⟩ => by cases M.pure_ok e; exact q, Ok.pure⟩
@[simp] theorem ok_get {f : HS → M β} : Ok ((get : M HS) >>= f) QB h ↔ Ok (f h) QB h := ⟨fun ⟨a, h1, e, q⟩ => ⟨a, h1, e, q⟩, fun ⟨a, h1, e, q⟩ => ⟨a, h1, e, q⟩⟩
@[simp] theorem ok_set {f : PUnit → M β} : Ok ((set x : M PUnit) >>= f) QB h ↔ Ok (f PUnit.unit) QB x := ⟨fun ⟨a, h1, e, q⟩ => ⟨a, h1, e, q⟩, fun ⟨a, h1, e, q⟩ => ⟨a, h1, e, q⟩⟩
@[simp] theorem ok_set' {Q : PUnit → HS → Prop} : Ok (set x : M PUnit) Q h ↔ Q PUnit.unit x := ⟨fun ⟨a, h1, e, q⟩ => by cases M.set_ok e; exact q, Ok.set⟩
@[simp] theorem ok_get' {Q : HS → HS → Prop} : Ok (get : M HS) Q h ↔ Q h h := ⟨fun ⟨a, h1, e, q⟩ => by cases M.get_ok e; exact q, Ok.get⟩
@[simp] theorem ok_map {f : α → β} {y : M α} : Ok (f <$> y) QB h ↔ Ok y (fun a h' => QB (f a) h') h := by
  rw [map_eq_pure_bind]
  refine ⟨fun ⟨b, h1, e, q⟩ => ?_, fun k => k.bind' fun a h1 q => Ok.pure q⟩
  obtain ⟨a, h2, e1, e2⟩ := M.bind_ok e
  cases M.pure_ok e2
  exact ⟨a, _, e1, q⟩
@[simp] theorem lift_some {a : α} : (liftO (some a) : M α) = pure a := rfl
@[simp] theorem guard_pos {c : Prop} [Decidable c] {y : M α} (e : c) : guardM c y = y := if_pos e
end
@[simp] theorem SZ_is : SZ = 16777216 := rfl
section
variable {i j : Nat} {ρ : Ev} {p q : PV} {ga gb gc : EM} {t u : TM} {gs : Ev → M (List PV)} {a b : SM} {f f' : PV → PV → M PV} {l m : List PV} {n k : Int} {bb : Bool} {gt : GM} {gts : GMs} {ps : List PV}
@[simp] theorem e_var : gVar i ρ = slF ρ[i]? := rfl
@[simp] theorem e_varB : gVarB i ρ = slB ρ[i]? := rfl
@[simp] theorem e_slF : slF (some (.fz p)) = pure p := rfl
@[simp] theorem e_slB : slB (some (.fz p)) = pure p := rfl
@[simp] theorem e_slBo : slB (some (.ow p)) = pure p := rfl
@[simp] theorem e_C : gC p ρ = pure p := rfl
@[simp] theorem e_bin : gBin f ga gb ρ = (ga ρ >>= fun x => gb ρ >>= fun y => f x y) := rfl
@[simp] theorem e_B {m : List PV → M PV} : gB m gs ρ = (gs ρ >>= m) := rfl
@[simp] theorem e_nil : gNil ρ = pure [] := rfl
@[simp] theorem e_cons : gCons ga gs ρ = (ga ρ >>= fun x => gs ρ >>= fun xs => pure (x :: xs)) := rfl
@[simp] theorem e_tup : gTup gs ρ = (gs ρ >>= fun xs => guardM (xs.length ≤ SZ) (pure (.tup xs))) := rfl
@[simp] theorem e_lst : gLst gs ρ = (gs ρ >>= fun xs => guardM (xs.length ≤ SZ) (pure (.lst xs))) := rfl
@[simp] theorem e_if : gIf t ga gb ρ = (t ρ >>= fun x => if x = true then ga ρ else gb ρ) := rfl
@[simp] theorem e_and : gAnd ga gb ρ = (ga ρ >>= fun x => asBl x >>= fun k => if k = true then gb ρ else pure (.bl false)) := rfl
@[simp] theorem e_or : gOr ga gb ρ = (ga ρ >>= fun x => asBl x >>= fun k => if k = true then pure (.bl true) else gb ρ) := rfl
@[simp] theorem e_not : gNot ga ρ = (ga ρ >>= fun x => asBl x >>= fun k => pure (.bl (!k))) := rfl
@[simp] theorem e_asBl : asBl (.bl bb) = pure bb := rfl
@[simp] theorem e_asInt : asInt (.int n) = pure n := rfl
@[simp] theorem e_TB : gTB ga ρ = (ga ρ >>= asBl) := rfl
@[simp] theorem e_Tru : gTru ga ρ = (ga ρ >>= pTru) := rfl
@[simp] theorem e_andT : gAndT t u ρ = (t ρ >>= fun x => if x = true then u ρ else pure false) := rfl
@[simp] theorem e_orT : gOrT t u ρ = (t ρ >>= fun x => if x = true then pure true else u ρ) := rfl
@[simp] theorem e_notT : gNotT t ρ = (t ρ >>= fun x => pure (!x)) := rfl
@[simp] theorem e_chain : gChain f f' ga gb gc ρ = (ga ρ >>= fun x => gb ρ >>= fun y => f x y >>= fun t => asBl t >>= fun k => if k = true then (gc ρ >>= fun z => f' y z) else pure (.bl false)) := rfl
@[simp] theorem e_isi {cs : List Cl} : gIsi cs ga ρ = (ga ρ >>= isiP cs) := rfl
@[simp] theorem isi_N {cs : List Cl} : isiP cs .non = pure (.bl false) := by
  show pure (PV.bl (cs.any fun c => isA c .non)) = _
  rw [show (cs.any fun c => isA c .non) = false by rw [List.any_eq_false]; intro c _; cases c <;> simp [isA]]
@[simp] theorem isi_B {cs : List Cl} : isiP cs (.bl bb) = pure (.bl (cs.any fun c => match c with | .int => true | .bool => true | _ => false)) := by
  show pure (PV.bl (cs.any fun c => isA c (.bl bb))) = _
  congr; funext c; cases c <;> rfl
@[simp] theorem isi_I {cs : List Cl} : isiP cs (.int n) = pure (.bl (cs.any fun c => match c with | .int => true | _ => false)) := by
  show pure (PV.bl (cs.any fun c => isA c (.int n))) = _
  congr; funext c; cases c <;> rfl
@[simp] theorem isi_S {x : Str} {cs : List Cl} : isiP cs (.str x) = pure (.bl (cs.any fun c => match c with | .str => true | _ => false)) := by
  show pure (PV.bl (cs.any fun c => isA c (.str x))) = _
  congr; funext c; cases c <;> rfl
@[simp] theorem isi_T {cs : List Cl} : isiP cs (.tup l) = pure (.bl (cs.any fun c => match c with | .tuple => true | _ => false)) := by
  show pure (PV.bl (cs.any fun c => isA c (.tup l))) = _
  congr; funext c; cases c <;> rfl
@[simp] theorem isi_P {cs : List Cl} : isiP cs (.ptp l) = pure (.bl (cs.any fun c => match c with | .tuple => true | _ => false)) := by
  show pure (PV.bl (cs.any fun c => isA c (.ptp l))) = _
  congr; funext c; cases c <;> rfl
@[simp] theorem isi_L {cs : List Cl} : isiP cs (.lst l) = pure (.bl (cs.any fun c => match c with | .list => true | _ => false)) := by
  show pure (PV.bl (cs.any fun c => isA c (.lst l))) = _
  congr; funext c; cases c <;> rfl
@[simp] theorem isi_D {l : List (Key × PV)} {cs : List Cl} : isiP cs (.dK l) = pure (.bl (cs.any fun c => match c with | .dict => true | _ => false)) := by
  show pure (PV.bl (cs.any fun c => isA c (.dK l))) = _
  congr; funext c; cases c <;> rfl
@[simp] theorem isi_DT {l : List (List Key × PV)} {cs : List Cl} : isiP cs (.dT l) = pure (.bl (cs.any fun c => match c with | .dict => true | _ => false)) := by
  show pure (PV.bl (cs.any fun c => isA c (.dT l))) = _
  congr; funext c; cases c <;> rfl
@[simp] theorem e_neg : gNeg ga ρ = (ga ρ >>= fun x => match x with
    | .int i => pure (.int (-i))
    | _ => stuck) := rfl
@[simp] theorem e_sl {lo hi : OM} : gSl ga lo hi ρ = (ga ρ >>= fun x => lo ρ >>= fun l => hi ρ >>= fun h => pSl x l h) := rfl
@[simp] theorem e_oNone : oNone ρ = pure none := rfl
@[simp] theorem e_oSome : oSome ga ρ = (ga ρ >>= fun x => asInt x >>= fun i => pure (some i)) := rfl
@[simp] theorem e_seq : sSeq a b ρ = (a ρ >>= fun o => match o with
  | .nx ρ' => b ρ'
  | o => pure o) := rfl
@[simp] theorem e_sNx : sNx ρ = pure (.nx ρ) := rfl
@[simp] theorem e_ret : sRet ga ρ = (ga ρ >>= fun p => pure (.rt p)) := rfl
@[simp] theorem e_retF : sRetF ga ρ = (ga ρ >>= fun p => pure (.rtF p)) := rfl
@[simp] theorem e_retN : sRetN ρ = pure (.rt .non) := rfl
@[simp] theorem e_asg : sAsg ga gt ρ = (ga ρ >>= fun p => gt p ρ >>= fun ρ' => pure (.nx ρ')) := rfl
@[simp] theorem e_own : sOwn ga i ρ = (ga ρ >>= fun p => pure (.nx (ρ.set i (.ow p)))) := rfl
@[simp] theorem e_frz : sFrz i a ρ = a (frz1 i ρ) := rfl
@[simp] theorem e_expr : sExpr ga ρ = (ga ρ >>= fun _ => pure (.nx ρ)) := rfl
@[simp] theorem e_sif : sIf t a b ρ = (t ρ >>= fun c => if c = true then a ρ else b ρ) := rfl
@[simp] theorem e_brk : sBrk ρ = pure (.bk ρ) := rfl
@[simp] theorem e_cnt : sCnt ρ = pure (.ct ρ) := rfl
@[simp] theorem e_tname : tgName i p ρ = pure (ρ.set i (.fz p)) := rfl
@[simp] theorem e_tnil : tgNil [] ρ = pure ρ := rfl
@[simp] theorem e_tcons : tgCons gt gts (p :: ps) ρ = (gt p ρ >>= fun ρ1 => gts ps ρ1) := rfl
@[simp] theorem e_ttup : tgTup i gts (.tup l) ρ = guardM (l.length = i) (gts l ρ) := rfl
@[simp] theorem e_par : sPar i j gs ρ = (gs ρ >>= fun ps => match ps with
  | [p, q] => pure (.nx ((ρ.set i (.fz p)).set j (.fz q)))
  | _ => stuck) := rfl
@[simp] theorem e_seth {go : EM} : sSetH go gb ga ρ = (ga ρ >>= fun p => go ρ >>= fun o => gb ρ >>= fun y => asInt y >>= fun k => match o with
  | .hand => (get : M HS) >>= fun h => liftO (ixN h.length k) >>= fun j => (set (h.set j p) : M PUnit) >>= fun _ => pure (.nx ρ)
  | _ => stuck) := rfl
@[simp] theorem e_lc {gi : IM} {tt : TM} {ge : EM} {vs : List Nat} : gLc gi gt tt ge vs ρ = (gi ρ >>= fun ps => lcF gt tt ge (wipeE ρ vs) ps >>= fun r => pure (.lst r)) := rfl
@[simp] theorem e_sfor {gi : IM} {gb : SM} : sFor gi gt gb ρ = (gi ρ >>= fun ps => forF gt gb ps ρ) := rfl
@[simp] theorem e_seqT : iSeq ga ρ = (ga ρ >>= fun x => match x with
  | .tup l => pure l
  | .lst l => pure l
  | .ptp l => pure l
  | _ => stuck) := rfl
@[simp] theorem e_range : iRange gs ρ = (gs ρ >>= fun xs => match xs with
  | [.int j] => guardM (-(2 ^ 62) ≤ j ∧ j ≤ SZ) (pure (rng 0 j.toNat))
  | [.int i, .int j] => guardM (-(2 ^ 62) ≤ i ∧ i < 2 ^ 62 ∧ -(2 ^ 62) ≤ j ∧ j < 2 ^ 62 ∧ (j - i).toNat ≤ SZ) (pure (rng i (j - i).toNat))
  | _ => stuck) := rfl
@[simp] theorem e_zip : iZip2 ga gb ρ = (ga ρ >>= fun x => gb ρ >>= fun y => match x, y with
  | .tup l, .tup m => pure ((l.zip m).map fun t => .tup [t.1, t.2])
  | .lst l, .lst m => pure ((l.zip m).map fun t => .tup [t.1, t.2])
  | _, _ => stuck) := rfl
@[simp] theorem e_wipe0 : wipeE ρ [] = ρ := rfl
@[simp] theorem e_wipe1 {v : Nat} {vs : List Nat} : wipeE ρ (v :: vs) = (wipeE ρ vs).set v .un := rfl
/-! values -/
@[simp] theorem v_add : pAdd (.int n) (.int k) = pure (.int (n + k)) := rfl
@[simp] theorem v_addT : pAdd (.tup l) (.tup m) = guardM (l.length + m.length ≤ SZ) (pure (.tup (l ++ m))) := rfl
@[simp] theorem v_addL : pAdd (.lst l) (.lst m) = guardM (l.length + m.length ≤ SZ) (pure (.lst (l ++ m))) := rfl
@[simp] theorem v_cat : pCat (.lst l) (.lst m) = guardM (l.length + m.length ≤ SZ) (pure (.lst (l ++ m))) := rfl
@[simp] theorem v_sub : pSub (.int n) (.int k) = pure (.int (n - k)) := rfl
theorem v_mul : pMul (.int n) (.int k) = guardM ((-(2 ^ 64) < n ∧ n < 2 ^ 64) ∨ (-(2 ^ 64) < k ∧ k < 2 ^ 64)) (pure (.int (n * k))) := rfl
theorem v_div : pDiv (.int n) (.int k) = guardM (0 < k ∧ k < 2 ^ 64) (pure (.int (n / k))) := rfl
theorem v_mod : pMod (.int n) (.int k) = guardM (0 < k) (pure (.int (n % k))) := rfl
theorem v_pow : pPow (.int n) (.int k) = guardM (0 ≤ k ∧ k ≤ 1000000 ∧ n.natAbs < 2 ^ 64) (pure (.int (n ^ k.toNat))) := rfl
@[simp] theorem v_mulL (h : -(2 ^ 64) < n ∧ n < 2 ^ 64) : pMul (.int n) (.int k) = pure (.int (n * k)) := guard_pos (.inl h)
@[simp] theorem v_mulR (h : -(2 ^ 64) < k ∧ k < 2 ^ 64) : pMul (.int n) (.int k) = pure (.int (n * k)) := guard_pos (.inr h)
@[simp] theorem v_mulM {a b : Int} (h : 0 < b ∧ b < 2 ^ 64) : pMul (.int (a % b)) (.int k) = pure (.int (a % b * k)) :=
  guard_pos (.inl ⟨by have := Int.emod_nonneg a (b := b) (by omega); omega, by have := Int.emod_lt_of_pos a h.1; omega⟩)
@[simp] theorem v_divP (h : 0 < k) (h' : k < 2 ^ 64) : pDiv (.int n) (.int k) = pure (.int (n / k)) := guard_pos ⟨h, h'⟩
@[simp] theorem v_modP (h : 0 < k) : pMod (.int n) (.int k) = pure (.int (n % k)) := guard_pos h
@[simp] theorem v_powP (h : 0 ≤ k ∧ k ≤ 1000000 ∧ n.natAbs < 2 ^ 64) : pPow (.int n) (.int k) = pure (.int (n ^ k.toNat)) := guard_pos h
@[simp] theorem v_lt : pLt (.int n) (.int k) = pure (.bl (decide (n < k))) := rfl
@[simp] theorem v_le : pLe (.int n) (.int k) = pure (.bl (decide (n ≤ k))) := rfl
@[simp] theorem v_gt : pGt (.int n) (.int k) = pure (.bl (decide (k < n))) := rfl
@[simp] theorem v_ge : pGe (.int n) (.int k) = pure (.bl (decide (k ≤ n))) := rfl
@[simp] theorem v_eq : pEq (.int n) (.int k) = pure (.bl (n == k)) := by show pure (PV.bl (false ^^ (n == k))) = _; rw [Bool.false_xor]
@[simp] theorem v_eqS {x y : Str} : pEq (.str x) (.str y) = pure (.bl (x == y)) := by show pure (PV.bl (false ^^ (x == y))) = _; rw [Bool.false_xor]
@[simp] theorem v_eqB {x y : Bool} : pEq (.bl x) (.bl y) = pure (.bl (x == y)) := by show pure (PV.bl (false ^^ (x == y))) = _; rw [Bool.false_xor]
@[simp] theorem v_ne : pNe (.int n) (.int k) = pure (.bl (!(n == k))) := by show pure (PV.bl (true ^^ (n == k))) = _; rw [Bool.true_xor]
@[simp] theorem v_neS {x y : Str} : pNe (.str x) (.str y) = pure (.bl (!(x == y))) := by show pure (PV.bl (true ^^ (x == y))) = _; rw [Bool.true_xor]
@[simp] theorem v_neB {x y : Bool} : pNe (.bl x) (.bl y) = pure (.bl (!(x == y))) := by show pure (PV.bl (true ^^ (x == y))) = _; rw [Bool.true_xor]
@[simp] theorem v_isN : pIsN false p .non = pure (.bl (isNon p)) := by show pure (PV.bl (false ^^ isNon p)) = _; rw [Bool.false_xor]
@[simp] theorem v_notN : pIsN true p .non = pure (.bl (!isNon p)) := by show pure (PV.bl (true ^^ isNon p)) = _; rw [Bool.true_xor]
@[simp] theorem v_ixP : pIx (.ptp l) (.int n) = liftO (atI l n) := rfl
@[simp] theorem v_lenP : pLen [.ptp l] = pure (.int l.length) := rfl
@[simp] theorem v_ixT : pIx (.tup l) (.int n) = liftO (atI l n) := rfl
@[simp] theorem v_ixL : pIx (.lst l) (.int n) = liftO (atI l n) := rfl
@[simp] theorem v_ixH : pIx .hand (.int n) = ((get : M HS) >>= fun h => liftO (atI h n)) := rfl
@[simp] theorem v_lenT : pLen [.tup l] = pure (.int l.length) := rfl
@[simp] theorem v_lenL : pLen [.lst l] = pure (.int l.length) := rfl
@[simp] theorem v_abs : pAbs [.int n] = pure (.int (if n < 0 then -n else n)) := rfl
@[simp] theorem v_int : pInt [.int n] = pure (.int n) := rfl
@[simp] theorem v_tupT : pTuple [.tup l] = pure (.tup l) := rfl
@[simp] theorem v_tupL : pTuple [.lst l] = pure (.tup l) := rfl
@[simp] theorem v_listT : pList [.tup l] = pure (.lst l) := rfl
@[simp] theorem v_listL : pList [.lst l] = pure (.lst l) := rfl
@[simp] theorem v_truN : pTru .non = pure false := rfl
@[simp] theorem v_truB : pTru (.bl bb) = pure bb := rfl
@[simp] theorem v_truI : pTru (.int n) = pure (n != 0) := rfl
@[simp] theorem v_truT : pTru (.tup l) = pure (!l.isEmpty) := rfl
@[simp] theorem v_truL : pTru (.lst l) = pure (!l.isEmpty) := rfl
@[simp] theorem v_max2 : pMax2 [.int n, .int k] = pure (.int (if k > n then k else n)) := rfl
@[simp] theorem v_min2 : pMin2 [.int n, .int k] = pure (.int (if k < n then k else n)) := rfl
@[simp] theorem v_slT {lo hi : Option Int} : pSl (.tup l) lo hi = pure (.tup (cut l lo hi)) := rfl
@[simp] theorem v_slL {lo hi : Option Int} : pSl (.lst l) lo hi = pure (.lst (cut l lo hi)) := rfl
theorem bls_map {α : Type} {f : α → Bool} : ∀ l : List α, bls? (l.map fun x => PV.bl (f x)) = some (l.map f)
  | [] => rfl
  | x :: l => by
    show (bls? (l.map fun x => PV.bl (f x))).map (f x :: ·) = _
    rw [bls_map l]; rfl
theorem ints_map {α : Type} {f : α → Int} : ∀ l : List α, ints? (l.map fun x => PV.int (f x)) = some (l.map f)
  | [] => rfl
  | x :: l => by
    show (ints? (l.map fun x => PV.int (f x))).map (f x :: ·) = _
    rw [ints_map l]; rfl
theorem v_all {α : Type} {f : α → Bool} {l : List α} : pAll [.lst (l.map fun x => PV.bl (f x))] = pure (.bl (l.all f)) := by
  show (liftO (bls? _) >>= fun bs => pure (PV.bl (bs.all id))) = _
  rw [bls_map, lift_some, pure_bind, List.all_map]; rfl
theorem v_any {α : Type} {f : α → Bool} {l : List α} : pAny [.lst (l.map fun x => PV.bl (f x))] = pure (.bl (l.any f)) := by
  show (liftO (bls? _) >>= fun bs => pure (PV.bl (bs.any id))) = _
  rw [bls_map, lift_some, pure_bind, List.any_map]; rfl
theorem v_sum {α : Type} {f : α → Int} {l : List α} : pSum [.lst (l.map fun x => PV.int (f x))] = pure (.int (l.map f).sum) := by
  show (liftO (ints? _) >>= fun bs => pure (PV.int bs.sum)) = _
  rw [ints_map, lift_some, pure_bind]
end
/-! walking through statements -/
theorem ok_seq {a b : SM} {ρ : Ev} {Q : Out → HS → Prop} {h : HS} (P : Ev → HS → Prop) (h1 : Ok (a ρ) (fun o h' => ∃ ρ', o = .nx ρ' ∧ P ρ' h') h) (h2 : ∀ ρ' h', P ρ' h' → Ok (b ρ') Q h') : Ok (sSeq a b ρ) Q h := by
  rw [e_seq]
  refine h1.bind' fun o h' ⟨ρ', e, p⟩ => ?_
  subst e
  exact h2 ρ' h' p
theorem ok_asg {g : EM} {i : Nat} {ρ : Ev} {P : Ev → HS → Prop} {h : HS} (k : Ok (g ρ) (fun p h' => P (ρ.set i (.fz p)) h') h) : Ok (sAsg g (tgName i) ρ) (fun o h' => ∃ ρ', o = .nx ρ' ∧ P ρ' h') h := by
  rw [e_asg]
  refine k.bind' fun p h' q => ?_
  rw [e_tname, pure_bind]
  exact Ok.pure ⟨_, rfl, q⟩
/-- x = e, then the rest: what e gives (R) is all that is kept of it -/
theorem ok_set_seq {g : EM} {i : Nat} {b : SM} {ρ : Ev} {Q : Out → HS → Prop} {h : HS} (R : PV → HS → Prop) (h1 : Ok (g ρ) R h) (h2 : ∀ p h', R p h' → Ok (b (ρ.set i (.fz p))) Q h') : Ok (sSeq (sAsg g (tgName i)) b ρ) Q h := by
  rw [e_seq, e_asg]
  simp only [e_tname, pure_bind, bind_assoc]
  exact h1.bind' fun p h' r => h2 p h' r
/-! indices -/
@[simp] theorem atI_0 {α : Type} {a : α} {l : List α} : atI (a :: l) 0 = some a := atI_nat (j := 0) rfl
@[simp] theorem atI_1 {α : Type} {a b : α} {l : List α} : atI (a :: b :: l) 1 = some b := atI_nat (j := 1) rfl
@[simp] theorem atI_2 {α : Type} {a b c : α} {l : List α} : atI (a :: b :: c :: l) 2 = some c := atI_nat (j := 2) rfl
@[simp] theorem atI_3 {α : Type} {a b c d : α} {l : List α} : atI (a :: b :: c :: d :: l) 3 = some d := atI_nat (j := 3) rfl
@[simp] theorem atI_4 {α : Type} {a b c d e : α} {l : List α} : atI (a :: b :: c :: d :: e :: l) 4 = some e := atI_nat (j := 4) rfl
theorem atI_lt {α : Type} {l : List α} {i : Int} (h0 : 0 ≤ i) (h1 : i < l.length) : atI l i = some (l[i.toNat]'(by omega)) := by
  obtain ⟨k, rfl⟩ : ∃ k : Nat, i = k := ⟨i.toNat, by omega⟩
  exact atI_nat (List.getElem?_eq_getElem (by omega))
@[simp] theorem ix_lit0 {n : Nat} : ixN (n + 1) 0 = some 0 := by unfold ixN; rw [if_pos (by omega), if_pos (by omega)]; rfl
@[simp] theorem ix_lit1 {n : Nat} : ixN (n + 1 + 1) 1 = some 1 := by unfold ixN; rw [if_pos (by omega), if_pos (by omega)]; rfl
@[simp] theorem ix_lit2 {n : Nat} : ixN (n + 1 + 1 + 1) 2 = some 2 := by unfold ixN; rw [if_pos (by omega), if_pos (by omega)]; rfl
@[simp] theorem ix_lit3 {n : Nat} : ixN (n + 1 + 1 + 1 + 1) 3 = some 3 := by unfold ixN; rw [if_pos (by omega), if_pos (by omega)]; rfl
@[simp] theorem ix_lit4 {n : Nat} : ixN (n + 1 + 1 + 1 + 1 + 1) 4 = some 4 := by unfold ixN; rw [if_pos (by omega), if_pos (by omega)]; rfl
/-- what a def makes of its body's end -/
def fin : Out → M PV
  | .rt p => pure p
  | .nx _ => pure .non
  | _ => stuck
@[simp] theorem fin_rt {p : PV} : fin (.rt p) = pure p := rfl
@[simp] theorem fin_nx {ρ : Ev} : fin (.nx ρ) = pure .non := rfl
theorem fn_u {nl : Nat} {b : SM} {ps : List PV} : fnM nl b ps = (b (ev0 nl ps) >>= fin) := by
  unfold fnM
  congr
def finF : Out → M PV
  | .rtF p => pure p
  | _ => stuck
@[simp] theorem finF_rt {p : PV} : finF (.rtF p) = pure p := rfl
theorem fnF_u {nl : Nat} {b : SM} {ps : List PV} : fnF nl b ps = (b (ev0 nl ps) >>= finF) := by
  unfold fnF
  congr
/-- the law: its hand, then the rest -/
theorem law_run {nl : Nat} {b0 b : SM} {ns : List Int} {l : HS} {ρ : Ev} (h0 : b0 (ev0 nl [.scr ns]) = pure (.nx ρ)) (hρ : ρ[1]? = some (.ow (.lst l))) (hn : noOwn 1 ρ = true)
    (h1 : Ok (b (ρ.set 1 (.fz .hand))) (fun o _ => o = .rt (.bl true)) l) : ∃ hs', fnM nl (sSeq b0 (sHand 1 b)) [.scr ns] [] = .ok (.bl true, hs') := by
  have key : Ok (fnM nl (sSeq b0 (sHand 1 b)) [.scr ns]) (fun p _ => p = .bl true) [] := by
    rw [fn_u, e_seq, h0, pure_bind]
    show Ok (sHand 1 b ρ >>= fin) _ _
    unfold sHand
    rw [hρ]
    show Ok (((pure l : M (List PV)) >>= fun l => guardM (noOwn 1 ρ = true) ((set l : M PUnit) >>= fun _ => b (ρ.set 1 (.fz .hand)) >>= fun o => match o with
      | .rt (.bl b) => pure (.rt (.bl b))
      | _ => stuck)) >>= fin) _ _
    rw [pure_bind, guard_pos hn, bind_assoc, ok_set, bind_assoc]
    refine h1.bind' fun o h e => ?_
    subst e
    simp
  obtain ⟨p, hs', e, rfl⟩ := key
  exact ⟨hs', e⟩
end SL

end
section
/-! SLo: sorted of data, a list or a tuple -/
namespace SLw
open PySem PySem.W PySem.Calls PyProof.Rows
section
variable {prog : Program} {w : World} {A : Around} {E : Value → Shared → Prop} {s : Shared}
theorem collect_tup {l : Addr} {vs : List Value} {Q : List Value → Shared → Prop} (hl : s.heap.IsTuple l vs.toArray) (hsz : vs.length ≤ sizeLine)
    (h : Q vs { s with heap := (s.heap.push (seqObj "list" #[] 0)).update s.heap.objs.size (Obj.mapSeq (· ++ vs.toArray)) }) : wpAny (model prog w) A (collect (.ref l)) Q E s := by
  obtain ⟨o, ho, hc, n, hd⟩ := id hl
  have h0 : (s.heap.push (seqObj "list" #[] 0)).get? s.heap.objs.size = some (seqObj "list" #[] 0) := Heap.get?_push_size _ rfl
  have h1 : (s.heap.push (seqObj "list" #[] 0)).get? l = some o := Heap.get?_push_of_some _ ho
  unfold collect
  refine wpAny_bind (wpAny_runValue (codeAny_builtin entry_proto_collect' ?_))
  show wpAny _ _ (do again (.builtin "list.__iadd__" ⟨[← newList [], .ref l], []⟩)) _ _ s
  refine wpAny_bind (wpAny_newList (wpAny_pure ⟨Code.quiet_builtin _ (by decide +kernel), codeAny_builtin entry_list_iadd' ?_⟩))
  show wpAny _ _ (Builtin.List.listExtendWith (.ref s.heap.objs.size) (.ref l) (.ref s.heap.objs.size)) _ _ { s with heap := s.heap.push (seqObj "list" #[] 0) }
  unfold Builtin.List.listExtendWith
  refine wpAny_bind (wpAny_typeOf (T := "tuple") ⟨o, h1, hc⟩ ?_)
  have e : (Value.type "tuple" == Value.type "tuple") = true := by rfl
  rw [if_pos (by rw [e]; simp)]
  refine wpAny_bind (listItems_at h1 hd ?_)
  refine wpAny_bind (listItems_at h0 rfl ?_)
  rw [if_neg (by simp)]
  refine wpAny_bind (listUpdate_at h0 rfl ?_ (Nat.zero_le _) (by show (#[] ++ vs.toArray).size ≤ sizeLine + 1; simp only [Array.size_append, List.size_toArray, List.length_nil]; omega))
  refine wpAny_pure ?_
  show wpAny (model prog w) A (do
      let o ← load s.heap.objs.size
      match o.data with
      | .seq xs _ => pure xs.toList
      | _ => unsupported "internal:collect") Q E { s with heap := (s.heap.push (seqObj "list" #[] 0)).update s.heap.objs.size (Obj.mapSeq (· ++ vs.toArray)) }
  refine wpAny_bind (wpAny_load (get?_update_seq h0 _) ?_)
  show wpAny _ _ (pure ((#[] : Array Value) ++ vs.toArray).toList) Q E _
  rw [show ((#[] : Array Value) ++ vs.toArray).toList = vs by simp]
  exact wpAny_pure h
/-- sorted(x) where x's items are collected so -/
theorem sorted_col {x : Value} {vs : List Value} {Q : Value → Shared → Prop} (hL : vs.length ≤ sizeLine)
    (col : ∀ (Q' : List Value → Shared → Prop) (E' : Value → Shared → Prop), Q' vs { s with heap := (s.heap.push (seqObj "list" #[] 0)).update s.heap.objs.size (Obj.mapSeq (· ++ vs.toArray)) } → wpAny (model prog w) A.in1 (collect x) Q' E' s)
    (body : ∀ E' : Value → Shared → Prop, wpAny (model prog w) A.in1.in1 (Builtin.«list.sort» ⟨[.ref (s.heap.objs.size + 1)], []⟩) (fun f s' => f = .done (.ret .none) ∧ Q (.ref (s.heap.objs.size + 1)) s') E' { s with heap := copyHeap s.heap vs }) :
    wpAny (model prog w) A (call (.builtin "sorted") [x]) Q E s := by
  refine call_function_entry kind_sorted plain_sorted entry_sorted (args_sorted1 _) ?_
  unfold Builtin.«sorted»
  refine wpAny_bind (m := checkCount "sorted" 1 1 _) (wpAny_pure ?_)
  refine wpAny_bind (col _ _ ?_)
  refine wpAny_bind (wpAny_newList ?_ hL)
  have hsz : ((s.heap.push (seqObj "list" #[] 0)).update s.heap.objs.size (Obj.mapSeq (· ++ vs.toArray))).objs.size = s.heap.objs.size + 1 := by
    rw [Heap.size_update, size_push']
  show wpAny _ _ _ _ _ { s with heap := copyHeap s.heap vs }
  rw [hsz]
  refine wpAny_bind (wpAny_holding (wpAny_call_entry_kw slot_list_sort ⟨_, copyHeap_at s.heap vs, rfl⟩ entry_list_sort ?body (args_list_sort _)))
  case body =>
    show wpAny (model prog w) A.in1.in1 (Builtin.«list.sort» ⟨[.ref (s.heap.objs.size + 1)], []⟩) _ _ _
    refine wpAny_mono (body _) (fun f s' hf => ?_) fun _ _ e => e
    obtain ⟨rfl, hq⟩ := hf
    exact ⟨_, rfl, wpAny_pure ⟨_, rfl, hq⟩⟩
variable {β : Type} {R : Value → β → Prop} {enc : β → PyData} {vs : List Value} {bs : List β}
theorem sorted_colD {x : Value} {Q : Value → Shared → Prop} (col : ∀ (Q' : List Value → Shared → Prop) (E' : Value → Shared → Prop), Q' vs { s with heap := (s.heap.push (seqObj "list" #[] 0)).update s.heap.objs.size (Obj.mapSeq (· ++ vs.toArray)) } → wpAny (model prog w) A.in1 (collect x) Q' E' s)
    (e : EachIs R vs bs) (er : EachIs (fun v b => ∃ as, Reads s.heap v (enc b) as) vs bs) (hal : AllAlike (bs.map enc)) (hk : Sortable (bs.map enc)) (hL : bs.length ≤ sizeLine)
    (hu : ∀ b, b ∈ bs → A.units + 2 + (enc b).depth < cLine) (h : ∀ out, out.length = bs.length → EachIs R out (bs.mergeSort (dataLe false enc)) → Q (.ref (s.heap.objs.size + 1)) { s with heap := sortedAll s.heap vs (List.toArray out) }) :
    wpAny (model prog w) A (call (.builtin "sorted") [x]) Q E s := by
  have er' : EachIs (fun v b => ∃ as, Reads (sortingHeap (copyHeap s.heap vs) (s.heap.objs.size + 1) vs) v (enc b) as) vs bs := er.mono fun _ _ ⟨as, r⟩ => ⟨as, PyProof.Rows.Reads.keeps (fun _ _ => sorting_copy_old) r⟩
  have hz : vs.length ≤ sizeLine := by rw [e.length]; exact hL
  have S := SortsAt.data (prog := prog) (w := w) (A := A.in1.in1) (s := { s with heap := sortingHeap (copyHeap s.heap vs) (s.heap.objs.size + 1) vs }) (each_map (R := fun v d => ∃ as, Reads (sortingHeap (copyHeap s.heap vs) (s.heap.objs.size + 1) vs) v d as) enc er') hal hk (bound_map hu)
  refine sorted_col hz col fun E' => list_sort_vals (s := { s with heap := copyHeap s.heap vs }) (copyHeap_at s.heap vs) S hz ⟨rfl, ?_⟩
  exact h _ (by rw [sortVals_length false rfl]; exact e.length) (sortVals_data false e er' hal)
end
end SLw
namespace L2
open PySem PySem.Spec PyProof.Rows
abbrev VD := V × PyData
theorem each_vd {s : Shared} {X : Cx} {pins : List (Addr × Obj)} {σ : L2.St} {H : Hp} (I : Inv X pins σ H s) : ∀ {bs : List VD} {us : List Value}, Vals (bs.map (·.1)) us → (∀ b ∈ bs, Dp X.K H b.1 b.2) →
    PySem.W.EachIs (fun u (b : VD) => RelV b.1 u) us bs ∧ PySem.W.EachIs (fun u (b : VD) => ∃ as, Reads s.heap u b.2 as) us bs
  | [], _, .nil, _ => ⟨.nil, .nil⟩
  | b :: bs, _, .cons r t, d => by
    obtain ⟨h1, h2⟩ := each_vd I t fun b h => d b (List.mem_cons_of_mem _ h)
    exact ⟨.cons r h1, .cons (Dp.reads I _ _ _ (d b List.mem_cons_self) r) h2⟩
theorem vals_each : ∀ {bs : List VD} {us : List Value}, PySem.W.EachIs (fun u (b : VD) => RelV b.1 u) us bs → Vals (bs.map (·.1)) us
  | [], _, .nil => .nil
  | _ :: _, _, .cons r t => .cons r (vals_each t)
/-- sorted(xs), data: a new list -/
def rSortedD (K : PySem.W.Frag) : List V → Hp → VK → Prop := fun xs H Q => ∃ (a : Addr) (bs : List VD), xs = [V.ref a] ∧ (SqL K H a (bs.map (·.1)) ∨ SqT K H a (bs.map (·.1))) ∧ (∀ b ∈ bs, Dp K H b.1 b.2) ∧ PySem.W.AllAlike (bs.map (·.2)) ∧ PySem.W.Sortable (bs.map (·.2)) ∧ (∀ b ∈ bs, b.2.depth ≤ 32) ∧
  ∀ p, H p = none → Q (.ref p) (upd H p (.lst ((bs.mergeSort (PySem.W.dataLe false (·.2))).map (·.1))))
theorem cr_sortedD {X : Cx} (hu : X.A.units + 64 < cLine) : CallR X (.builtin "sorted") (rSortedD X.K) := by
  intro pins s σ H vs us Q I r h
  obtain ⟨a, bs, rfl, hs, hd, ha, hk, hp, q⟩ := h
  obtain ⟨u, rfl, ru⟩ := vals1 r
  obtain rfl : u = Value.ref a := ru
  obtain ⟨its, rv, hz, col⟩ : ∃ its : List Value, Vals (bs.map (·.1)) its ∧ (bs.map (·.1)).length ≤ sizeLine ∧ ∀ (Q' : List Value → Shared → Prop) (E' : Value → Shared → Prop), Q' its { s with heap := (s.heap.push (seqObj "list" #[] 0)).update s.heap.objs.size (Obj.mapSeq (· ++ its.toArray)) } → wpAny (model X.prog X.w) X.A.in1 (collect (.ref a)) Q' E' s := by
    rcases hs with hs | hs
    · obtain ⟨its, rv, hl, hz⟩ := I.list hs
      exact ⟨its, rv, hz, fun Q' E' h => PyProof.Rows.collect_list hl.isList h (by rw [← rv.length]; exact hz)⟩
    · obtain ⟨its, rv, hl, hz⟩ := I.tuple hs
      exact ⟨its, rv, hz, fun Q' E' h => SLw.collect_tup hl (by rw [← rv.length]; exact hz) h⟩
  obtain ⟨e1, e2⟩ := each_vd I rv hd
  rw [List.length_map] at hz
  refine SLw.sorted_colD (enc := fun b : VD => b.2) col e1 e2 ha hk hz (fun b hb => by have := hp b hb; omega) fun out ho h1 => ?_
  have h2 := vals_each h1
  obtain ⟨ep, he'⟩ := PyProof.Rows.sortedAll_at s.heap its out.toArray
  have hlen : ((bs.mergeSort (PySem.W.dataLe false fun b : VD => b.2)).map (·.1)).length ≤ sizeLine := by rw [List.length_map, List.length_mergeSort]; exact hz
  exact ⟨.ref _, upd H (s.heap.objs.size + 1) (.lst ((bs.mergeSort (PySem.W.dataLe false fun b : VD => b.2)).map (·.1))), I.laid (t' := s.toks) (fun _ _ => PyProof.Rows.sortedAll_old) (Nat.le_succ _) ⟨hlen, out, ep, h2, he'⟩, rfl, q _ (I.hok.fresh (Nat.le_succ _))⟩
end L2
namespace SL
open PySem PySem.Spec PyProof.Rows L2
variable [Tbs]
/-! ### the mirror -/
def isTup1 : PyData → Bool
  | .tuple (_ :: _) => true
  | _ => false
def noTup : PyData → Bool
  | .tuple _ | .none => false
  | _ => true
def alikeB (ds : List PyData) : Bool := ds.all fun d => ds.all fun e => PySem.W.alike d e
def sortB (ds : List PyData) : Bool := ds.all isTup1 || ds.all noTup
theorem alikeB_ok {ds : List PyData} (h : alikeB ds = true) : PySem.W.AllAlike ds := fun d hd e he => List.all_eq_true.mp (List.all_eq_true.mp h d hd) e he
theorem sortB_ok {ds : List PyData} (h : sortB ds = true) : PySem.W.Sortable ds := by
  rcases Bool.or_eq_true_iff.mp h with h | h
  · refine .inl fun d hd => ?_
    have := List.all_eq_true.mp h d hd
    unfold isTup1 at this
    split at this
    · exact ⟨_, _, rfl⟩
    · cases this
  · refine .inr fun d hd => ?_
    have := List.all_eq_true.mp h d hd
    unfold noTup at this
    split at this
    · cases this
    · cases this
    · rename_i h1 h2
      exact ⟨h2, h1⟩
def sorts (l : List PV) (ds : List PyData) : List PV := ((l.zip ds).mergeSort (PySem.W.dataLe false (·.2))).map (·.1)
def sortP (l : List PV) : M PV := match toDs l with
  | some ds => guardM (alikeB ds = true ∧ sortB ds = true ∧ (ds.all fun d => decide (d.depth ≤ 32)) = true) (pure (.lst (sorts l ds)))
  | none => stuck
def pSorted : List PV → M PV
  | [.tup l] => sortP l
  | [.lst l] => sortP l
  | _ => stuck
theorem mergeSort_map' {α β : Type} (f : α → β) (le : β → β → Bool) (l : List α) : (l.mergeSort fun a b => le (f a) (f b)).map f = (l.map f).mergeSort le := by
  exact List.map_mergeSort (f := f) (fun a _ b _ => rfl)
theorem zip3 {α β γ : Type} : ∀ {a : List α} {b : List β} {c : List γ}, a.length = b.length → b.length = c.length → ((a.zip (b.zip c)).map fun t => (t.1, t.2.2)) = a.zip c ∧ ((a.zip (b.zip c)).map fun t => t.2) = b.zip c ∧ ((a.zip c).map (·.1)) = a
  | [], [], [], _, _ => ⟨rfl, rfl, rfl⟩
  | x :: a, y :: b, z :: c, h1, h2 => by
    obtain ⟨e1, e2, e3⟩ := zip3 (a := a) (b := b) (c := c) (by simpa using h1) (by simpa using h2)
    exact ⟨by simp only [List.zip_cons_cons, List.map_cons, e1], by simp only [List.zip_cons_cons, List.map_cons, e2], by simp only [List.zip_cons_cons, List.map_cons, e3]⟩
theorem reps_zip {K : Fg} {ah : Ax} {F : Addr → Prop} {H : Hp} : ∀ {vs : List V} {ps : List PV}, Reps K ah F H vs ps → ∀ t ∈ vs.zip ps, Rep K ah F H t.1 t.2
  | _, _, .nil, t, h => by simp at h
  | _, _, .cons r q, t, h => by
    rcases List.mem_cons.mp h with e | h
    · rw [e]; exact r
    · exact reps_zip q t h
theorem zip_reps {K : Fg} {ah : Ax} {F : Addr → Prop} {H : Hp} : ∀ {ts : List (V × PV)}, (∀ t ∈ ts, Rep K ah F H t.1 t.2) → Reps K ah F H (ts.map (·.1)) (ts.map (·.2))
  | [], _ => .nil
  | t :: ts, h => .cons (h t List.mem_cons_self) (zip_reps fun t ht => h t (List.mem_cons_of_mem _ ht))
theorem toDs_len : ∀ {l : List PV} {ds : List PyData}, toDs l = some ds → l.length = ds.length
  | [], _, h => by cases h; rfl
  | p :: r, ds, h => by
    rw [toDs] at h
    cases e1 : toD p with
    | none => rw [e1] at h; cases h
    | some d =>
      cases e2 : toDs r with
      | none => rw [e1, e2] at h; cases h
      | some ds => rw [e1, e2] at h; cases h; exact congrArg (· + 1) (toDs_len e2)
theorem dp_zip {K : Fg} {H : Hp} : ∀ {vs : List V} {ds : List PyData}, DpAll K H vs ds → ∀ t ∈ vs.zip ds, Dp K H t.1 t.2
  | _, _, .nil, t, h => by simp at h
  | _, _, .cons r q, t, h => by
    rcases List.mem_cons.mp h with e | h
    · rw [e]; exact r
    · exact dp_zip q t h
theorem sort_reps {K : Fg} {ah : Ax} {F : Addr → Prop} {H : Hp} {vs : List V} {ps : List PV} {ds : List PyData} (r : Reps K ah F H vs ps) (h : ps.length = ds.length) : Reps K ah F H (((vs.zip ds).mergeSort (PySem.W.dataLe false (·.2))).map (·.1)) (sorts ps ds) := by
  obtain ⟨e1, e2, _⟩ := zip3 r.length h
  unfold sorts
  obtain ⟨Z, hZ⟩ : ∃ Z, Z = vs.zip (ps.zip ds) := ⟨_, rfl⟩
  rw [← hZ] at e1 e2
  rw [← e1, ← e2]
  have m1 := mergeSort_map' (fun t : V × PV × PyData => (t.1, t.2.2)) (PySem.W.dataLe false (·.2)) Z
  have m2 := mergeSort_map' (fun t : V × PV × PyData => t.2) (PySem.W.dataLe false (·.2)) Z
  rw [← m1, ← m2, List.map_map, List.map_map]
  have hm : ∀ t ∈ (Z.mergeSort fun a b => PySem.W.dataLe false (fun b : PV × PyData => b.2) a.2 b.2), Rep K ah F H t.1 t.2.1 := fun t ht => by
    have h1 : t ∈ vs.zip (ps.zip ds) := hZ ▸ List.mem_mergeSort.mp ht
    obtain ⟨i, hi⟩ := List.getElem?_of_mem h1
    obtain ⟨h2, h3⟩ := List.getElem?_zip_eq_some.mp hi
    obtain ⟨h4, h5⟩ := List.getElem?_zip_eq_some.mp h3
    obtain ⟨v, h6, h7⟩ := r.get h4
    rw [h2] at h6
    cases h6
    exact h7
  have := zip_reps (ts := ((Z.mergeSort fun a b => PySem.W.dataLe false (fun b : PV × PyData => b.2) a.2 b.2)).map fun t => (t.1, t.2.1)) (K := K) (ah := ah) (F := F) (H := H) (by
    intro t ht
    obtain ⟨u, hu, rfl⟩ := List.mem_map.mp ht
    exact hm u hu)
  rw [List.map_map, List.map_map] at this
  exact this
section
variable {X : Cx}
theorem cf_sorted : CallF X (rSortedD X.K) pSorted := fun ah F H hs hs' xs ps z Q G c e k => by
  have fin : ∀ {a vs l}, xs = [.ref a] → (SqL X.K H a vs ∨ SqT X.K H a vs) → Reps X.K ah F H vs l → vs.length ≤ sizeLine → sortP l hs = .ok (z, hs') → rSortedD X.K xs H Q := by
    intro a vs l ex hq r hz e
    unfold sortP at e
    cases hd : toDs l with
    | none => rw [hd] at e; cases e
    | some ds =>
      rw [hd] at e
      obtain ⟨⟨g1, g2, g3⟩, e⟩ := guard_ok e
      cases M.pure_ok e
      have hl := toDs_len hd
      have hv : vs.length = ds.length := r.length.trans hl
      have e3 : (vs.zip ds).map (·.1) = vs := List.map_fst_zip (by omega)
      have e4 : (vs.zip ds).map (·.2) = ds := List.map_snd_zip (by omega)
      refine ⟨a, vs.zip ds, ex, by rw [e3]; exact hq, dp_zip (toDs_rep r hd), by rw [e4]; exact alikeB_ok g1, by rw [e4]; exact sortB_ok g2, fun b hb => ?_, fun p n => ?_⟩
      · have := List.all_eq_true.mp g3 b.2 (by rw [← e4]; exact List.mem_map_of_mem hb)
        exact of_decide_eq_true this
      · exact new_lst G n (by rw [List.length_map, List.length_mergeSort, List.length_zip]; omega) (sort_reps r hl) k
  unfold pSorted at e
  split at e
  · cases c with | cons c t => cases t; obtain ⟨a, vs, rfl, h, z, r⟩ := c.tup; exact fin rfl (.inr (.of h)) r z e
  · cases c with | cons c t => cases t; obtain ⟨a, vs, rfl, h, z, r⟩ := c.lst; exact fin rfl (.inl (.of h)) r z e
  · cases e
variable {e : Expr} {es : List Expr} {p pos : Pos} {gs : Ev → M (List PV)}
theorem sf_sorted (hu : X.A.units + 64 < cLine) (hm : X.mg "sorted" = none) (ha : SAB X (e :: es) gs) (hg : Gl X "sorted" := by rfl) (he : starEach (e :: es) X.env = (false, eval e X.env) :: starEach es X.env := by rfl) (hpl : (backTo pos (starEach es X.env)).any (·.1) = false := by rfl) : SF X (.Call (.Name "sorted" p) (e :: es) [] pos) (gB pSorted gs) :=
  sf_B cf_sorted (pe_callB (cr_sortedD hu) hg hm (by decide +kernel) ha (by decide) (by decide) he hpl)
end
/-! ### what it is -/
theorem sorts_mem {l : List PV} {ds : List PyData} (h : l.length = ds.length) {p : PV} : p ∈ sorts l ds ↔ p ∈ l := by
  unfold sorts
  have e : l = (l.zip ds).map (·.1) := (List.map_fst_zip (by omega)).symm
  constructor
  · intro hp
    obtain ⟨t, ht, rfl⟩ := List.mem_map.mp hp
    rw [e]
    exact List.mem_map_of_mem (List.mem_mergeSort.mp ht)
  · intro hp
    rw [e] at hp
    obtain ⟨t, ht, rfl⟩ := List.mem_map.mp hp
    exact List.mem_map_of_mem (List.mem_mergeSort.mpr ht)
theorem sorts_perm {l : List PV} {ds : List PyData} (h : l.length = ds.length) : (sorts l ds).Perm l := by
  unfold sorts
  have e : l = (l.zip ds).map (·.1) := (List.map_fst_zip (by omega)).symm
  conv => rhs; rw [e]
  exact (List.mergeSort_perm _ _).map _
theorem toDs_ints : ∀ (ns : List Int), toDs (ns.map PV.int) = some (ns.map .int)
  | [] => rfl
  | n :: r => by rw [List.map_cons, toDs, toDs_ints r]; rfl
theorem sorts_ints (ns : List Int) : sorts (ns.map PV.int) (ns.map PyData.int) = (ns.mergeSort fun a b => decide (a ≤ b)).map PV.int := by
  unfold sorts
  have e : (ns.map PV.int).zip (ns.map PyData.int) = ns.map fun n => (PV.int n, PyData.int n) := by
    induction ns with
    | nil => rfl
    | cons n r ih => rw [List.map_cons, List.map_cons, List.zip_cons_cons, ih, List.map_cons]
  rw [e, ← mergeSort_map' (fun n : Int => (PV.int n, PyData.int n)) (PySem.W.dataLe false (·.2)) ns, List.map_map]
  have := PySem.W.dataLe_int (β := Int) id
  have e2 : (fun a b : Int => PySem.W.dataLe false (fun x : PV × PyData => x.2) (PV.int a, PyData.int a) (PV.int b, PyData.int b)) = fun a b => decide (a ≤ b) := this
  rw [e2]
  rfl
theorem alikeB_ints (ns : List Int) : alikeB (ns.map PyData.int) = true := by
  unfold alikeB
  refine List.all_eq_true.mpr fun d hd => List.all_eq_true.mpr fun e he => ?_
  obtain ⟨a, _, rfl⟩ := List.mem_map.mp hd
  obtain ⟨b, _, rfl⟩ := List.mem_map.mp he
  rfl
theorem sortP_ints (ns : List Int) : sortP (ns.map PV.int) = pure (.lst ((ns.mergeSort fun a b => decide (a ≤ b)).map PV.int)) := by
  unfold sortP
  rw [toDs_ints]
  show guardM _ _ = _
  rw [guard_pos, sorts_ints]
  refine ⟨alikeB_ints ns, ?_, List.all_eq_true.mpr fun d hd => ?_⟩
  · unfold sortB
    rw [Bool.or_eq_true]
    refine .inr (List.all_eq_true.mpr fun d hd => ?_)
    obtain ⟨a, _, rfl⟩ := List.mem_map.mp hd
    rfl
  · obtain ⟨a, _, rfl⟩ := List.mem_map.mp hd
    rfl
end SL

end
section
/-! SLp: more reasoning about mirrors: loops that ask all, that find, that fold; comprehensions whose tests draw; ints in rows -/
namespace SL
open PySem PySem.Spec PyProof.Rows L2
variable [Tbs]
def iT (A : List Int) : PV := .tup (A.map PV.int)
def iL (A : List Int) : PV := .lst (A.map PV.int)
theorem rng0 (n : Nat) : rng 0 n = (List.range n).map fun (i : Nat) => PV.int i := by
  unfold rng
  congr
  funext i
  rw [Int.zero_add]
section
variable {α : Type}
/-- for x in ..: if not t: return False -/
theorem forall_loop {f : Slot → Ev} {i : Nat} (hf : ∀ s p, (f s).set i (.fz p) = f (.fz p)) {t : TM} {c : α → Bool} {φ : α → PV} {v : PV} : ∀ {l : List α}, (∀ x ∈ l, t (f (.fz (φ x))) = pure (c x)) → ∀ s, ∃ s', forF (tgName i) (sIf t (sRet (gC v)) sNx) (l.map φ) (f s) = pure (if (l.all fun x => !c x) = true then .nx (f s') else .rt v)
  | [], _, s => ⟨s, rfl⟩
  | x :: l, h, s => by
    obtain ⟨s', ih⟩ := forall_loop (v := v) hf (l := l) (fun y hy => h y (List.mem_cons_of_mem _ hy)) (.fz (φ x))
    have hx := h x List.mem_cons_self
    refine ⟨s', ?_⟩
    rw [List.map_cons, forF_cons, e_tname, pure_bind, hf, e_sif, hx, pure_bind]
    cases hc : c x with
    | true => simp [hc]
    | false => simp [hc, ih]
theorem forall_loopN {f : Slot → Ev} {i : Nat} (hf : ∀ s p, (f s).set i (.fz p) = f (.fz p)) {t : TM} {c : α → Bool} {φ : α → PV} {v : PV} {l : List α} (h : ∀ x ∈ l, t (f (.fz (φ x))) = pure (c x)) (s : Slot) : ∃ s', forF (tgName i) (sIf (gNotT t) (sRet (gC v)) sNx) (l.map φ) (f s) = pure (if l.all c = true then .nx (f s') else .rt v) := by
  obtain ⟨s', e⟩ := forall_loop (v := v) hf (t := gNotT t) (c := fun x => !c x) (φ := φ) (l := l) (fun x hx => by
    show (t (f (.fz (φ x))) >>= fun x => pure (!x)) = _
    rw [h x hx, pure_bind]) s
  refine ⟨s', ?_⟩
  rw [e]
  congr 2
  simp only [Bool.not_not]
/-- for x in ..: if t: return g -/
theorem find_loop {f : Slot → Ev} {i : Nat} (hf : ∀ s p, (f s).set i (.fz p) = f (.fz p)) {t : TM} {g : EM} {c : α → Bool} {φ e : α → PV} : ∀ {l : List α}, (∀ x ∈ l, t (f (.fz (φ x))) = pure (c x) ∧ (c x = true → g (f (.fz (φ x))) = pure (e x))) → ∀ s, ∃ s', forF (tgName i) (sIf t (sRet g) sNx) (l.map φ) (f s) = pure (match l.find? c with | some x => .rt (e x) | none => .nx (f s'))
  | [], _, s => ⟨s, rfl⟩
  | x :: l, h, s => by
    obtain ⟨s', ih⟩ := find_loop hf (l := l) (fun y hy => h y (List.mem_cons_of_mem _ hy)) (.fz (φ x))
    obtain ⟨hx, hg⟩ := h x List.mem_cons_self
    refine ⟨s', ?_⟩
    rw [List.map_cons, forF_cons, e_tname, pure_bind, hf, e_sif, hx, pure_bind]
    cases hc : c x with
    | true => simp [hc, hg hc]
    | false => simp [hc, ih]
/-- a loop that only goes on: what it makes is a fold -/
theorem fold_loop {β : Type} {st : β → Slot → Ev} {gt : GM} {gb : SM} {g : β → α → β} {φ : α → PV} : ∀ {l : List α} {a : β}, (∀ pre x suf, l = pre ++ x :: suf → ∀ s, ∃ s', (gt (φ x) (st (pre.foldl g a) s) >>= gb) = pure (.nx (st (g (pre.foldl g a) x) s'))) →
    ∀ s, ∃ s', forF gt gb (l.map φ) (st a s) = pure (.nx (st (l.foldl g a) s'))
  | [], a, _, s => ⟨s, rfl⟩
  | x :: l, a, h, s => by
    obtain ⟨s1, e1⟩ := h [] x l rfl s
    obtain ⟨s', ih⟩ := fold_loop (l := l) (a := g a x) (fun pre y suf e s => h (x :: pre) y suf (by rw [e]; rfl) s) s1
    refine ⟨s', ?_⟩
    rw [List.foldl_nil] at e1
    rw [List.map_cons, forF, ← bind_assoc, e1, pure_bind]
    exact ih
/-- a comprehension whose test draws -/
theorem ok_lcT {gt : GM} {tt : TM} {ge : EM} {ρ : Ev} {I : HS → Prop} {φ e : α → PV} : ∀ {l : List α} {h : HS}, I h → (∀ x ∈ l, ∀ h, I h → ∃ ρ', gt (φ x) ρ = pure ρ' ∧ Ok (tt ρ') (fun _ h' => I h') h ∧ ge ρ' = pure (e x)) →
    Ok (lcF gt tt ge ρ (l.map φ)) (fun ys h' => ∃ m : List α, m.Sublist l ∧ ys = m.map e ∧ I h') h
  | [], h, hI, _ => Ok.pure ⟨[], .refl _, rfl, hI⟩
  | x :: l, h, hI, k => by
    obtain ⟨ρ', e1, ok, e2⟩ := k x List.mem_cons_self h hI
    rw [List.map_cons, lcF, e1, pure_bind]
    refine ok.bind' fun b h1 h1I => ?_
    have ih := ok_lcT h1I fun q hq => k q (List.mem_cons_of_mem _ hq)
    cases b with
    | false =>
      rw [if_neg Bool.false_ne_true]
      exact ih.mono fun ys h2 ⟨m, hm, e, hI⟩ => ⟨m, hm.cons _, e, hI⟩
    | true =>
      rw [if_pos rfl, e2, pure_bind]
      refine ih.bind' fun ys h2 ⟨m, hm, e, hI⟩ => ?_
      exact Ok.pure ⟨x :: m, hm.cons₂ _, by rw [e]; rfl, hI⟩
end
theorem any_int (A : List Int) (a : Int) : ((A.map PV.int).any fun y => eqP y (.int a)) = decide (a ∈ A) := by
  induction A with
  | nil => rfl
  | cons x l ih =>
    rw [List.map_cons, List.any_cons, ih]
    show ((x == a) || decide (a ∈ l)) = _
    by_cases h : x = a
    · subst h; simp
    · have h' : ¬ a = x := fun e => h e.symm
      simp [h, h']
theorem flat_ints (A : List Int) : (A.map PV.int).all flatP = true := by
  rw [List.all_map]
  exact List.all_eq_true.mpr fun _ _ => rfl
theorem v_inI {A : List Int} {a : Int} : pIn (.int a) (.tup (A.map PV.int)) = pure (.bl (decide (a ∈ A))) := by
  show guardM _ (pure (PV.bl (false ^^ _))) = _
  rw [guard_pos ⟨rfl, flat_ints A⟩, any_int, Bool.false_xor]
theorem v_inIL {A : List Int} {a : Int} : pIn (.int a) (.lst (A.map PV.int)) = pure (.bl (decide (a ∈ A))) := by
  show guardM _ (pure (PV.bl (false ^^ _))) = _
  rw [guard_pos ⟨rfl, flat_ints A⟩, any_int, Bool.false_xor]
theorem v_ninI {A : List Int} {a : Int} : pNotIn (.int a) (.tup (A.map PV.int)) = pure (.bl (!decide (a ∈ A))) := by
  show guardM _ (pure (PV.bl (true ^^ _))) = _
  rw [guard_pos ⟨rfl, flat_ints A⟩, any_int, Bool.true_xor]
theorem v_ninIL {A : List Int} {a : Int} : pNotIn (.int a) (.lst (A.map PV.int)) = pure (.bl (!decide (a ∈ A))) := by
  show guardM _ (pure (PV.bl (true ^^ _))) = _
  rw [guard_pos ⟨rfl, flat_ints A⟩, any_int, Bool.true_xor]
theorem cut1 {α : Type} (l : List α) : cut l (some 1) none = l.drop 1 := by
  unfold cut HT.sIx
  cases l with
  | nil => rfl
  | cons x l => simp
theorem zip_next {α : Type} {r : α → α → Prop} : ∀ {l : List α}, l.Pairwise r → ∀ t ∈ l.zip (l.drop 1), r t.1 t.2
  | [], _, t, h => by simp at h
  | [x], _, t, h => by simp at h
  | x :: y :: l, p, t, h => by
    rw [List.pairwise_cons] at p
    have h : t ∈ (x, y) :: (y :: l).zip l := h
    rcases List.mem_cons.mp h with e | h
    · rw [e]; exact p.1 y List.mem_cons_self
    · exact zip_next (l := y :: l) p.2 t h
/-- a row of numbers from 0 on that ascend, below n -/
structure LotOk (n : Nat) (A : List Int) : Prop where
  bd : ∀ a ∈ A, 0 ≤ a ∧ a < n
  asc : A.Pairwise (· < ·)
theorem range_asc (n : Nat) : ((List.range n).map fun (i : Nat) => (i : Int)).Pairwise (· < ·) := by
  rw [List.pairwise_map]
  exact List.pairwise_lt_range.imp fun h => by omega
theorem LotOk.of_sub {n : Nat} {m : List Nat} (h : m.Sublist (List.range n)) : LotOk n (m.map fun (i : Nat) => (i : Int)) :=
  ⟨fun a ha => by
    obtain ⟨x, hx, rfl⟩ := List.mem_map.mp ha
    have := List.mem_range.mp (h.mem hx)
    omega, (range_asc n).sublist (h.map _)⟩
theorem LotOk.len {n : Nat} {m : List Nat} (h : m.Sublist (List.range n)) : m.length ≤ n := by
  have := h.length_le
  simpa using this
end SL

end
section
/-! SLq: dicts: keys ints and texts, or tuples of these -/
namespace SL
open PySem PySem.Spec PyProof.Rows L2
variable [Tbs]
def keyP : PV → Option Key
  | .int i => some (.inl i)
  | .str x => some (.inr x)
  | _ => none
def keysP : List PV → Option (List Key)
  | [] => some []
  | p :: r => match keyP p, keysP r with
    | some k, some ks => some (k :: ks)
    | _, _ => none
section
variable {κ : Type} [DecidableEq κ]
def dGet (l : List (κ × PV)) (k : κ) : Option PV := (l.find? fun kv => decide (kv.1 = k)).map (·.2)
def dPut (l : List (κ × PV)) (k : κ) (v : PV) : List (κ × PV) :=
  if (l.any fun kv => decide (kv.1 = k)) = true then l.map (fun kv => if kv.1 = k then (kv.1, v) else kv) else l ++ [(k, v)]
end
section
variable {K : Fg} {ah : Ax} {F : Addr → Prop} {H : Hp}
theorem keyP_con {v : V} {p : PV} {k : Key} (c : Con K ah F H v p) (h : keyP p = some k) : v = kV k := by
  cases p <;> first | (cases h; done) | skip
  · cases h; exact c.int
  · cases h; exact c.str
theorem keysP_reps : ∀ {vs : List V} {ps : List PV} {ks : List Key}, Reps K ah F H vs ps → keysP ps = some ks → vs = ks.map kV
  | _, _, _, .nil, h => by cases h; rfl
  | _, p :: ps, ks, .cons r t, h => by
    rw [keysP] at h
    cases e1 : keyP p with
    | none => rw [e1] at h; cases h
    | some k =>
      cases e2 : keysP ps with
      | none => rw [e1, e2] at h; cases h
      | some m =>
        rw [e1, e2] at h; cases h
        rw [keyP_con (.rep r) e1, keysP_reps t e2]; rfl
variable {κ : Type} [DecidableEq κ]
theorem get_some : ∀ {kvs : List (κ × V)} {ps : List (κ × PV)} {k : κ} {p : PV}, kvs.map (·.1) = ps.map (·.1) → Reps K ah F H (kvs.map (·.2)) (ps.map (·.2)) → dGet ps k = some p → ∃ v, valV kvs k = some v ∧ Rep K ah F H v p
  | [], [], k, p, _, _, h => by cases h
  | kv :: kvs, q :: ps, k, p, e, r, h => by
    rw [List.map_cons, List.map_cons] at e r
    cases r with
    | cons r t =>
      have e1 : kv.1 = q.1 := (List.cons.inj e).1
      by_cases hk : q.1 = k
      · have h' : dGet (q :: ps) k = some q.2 := by simp [dGet, List.find?_cons, hk]
        rw [h'] at h
        cases h
        exact ⟨kv.2, valV_pos (e1.trans hk), r⟩
      · have h' : dGet (q :: ps) k = dGet ps k := by simp [dGet, List.find?_cons, hk]
        rw [h'] at h
        obtain ⟨v, h1, h2⟩ := get_some (List.cons.inj e).2 t h
        exact ⟨v, by rw [valV_neg (fun z => hk (e1.symm.trans z))]; exact h1, h2⟩
theorem get_is : ∀ {kvs : List (κ × V)} {ps : List (κ × PV)} {k : κ}, kvs.map (·.1) = ps.map (·.1) → (valV kvs k).isSome = (dGet ps k).isSome
  | [], [], k, _ => rfl
  | kv :: kvs, q :: ps, k, e => by
    rw [List.map_cons, List.map_cons] at e
    have e1 : kv.1 = q.1 := (List.cons.inj e).1
    by_cases hk : q.1 = k
    · have h' : dGet (q :: ps) k = some q.2 := by simp [dGet, List.find?_cons, hk]
      rw [h', valV_pos (e1.trans hk)]; rfl
    · have h' : dGet (q :: ps) k = dGet ps k := by simp [dGet, List.find?_cons, hk]
      rw [h', valV_neg (fun z => hk (e1.symm.trans z))]
      exact get_is (List.cons.inj e).2
theorem any_key {α β : Type} : ∀ {kvs : List (κ × α)} {ps : List (κ × β)} {k : κ}, kvs.map (·.1) = ps.map (·.1) → (kvs.any fun kv => decide (kv.1 = k)) = ps.any fun kv => decide (kv.1 = k)
  | [], [], _, _ => rfl
  | kv :: kvs, q :: ps, k, e => by
    rw [List.map_cons, List.map_cons] at e
    rw [List.any_cons, List.any_cons, any_key (List.cons.inj e).2, (List.cons.inj e).1]
theorem put_map : ∀ {kvs : List (κ × V)} {ps : List (κ × PV)} {k : κ} {v : V} {p : PV}, kvs.map (·.1) = ps.map (·.1) → Reps K ah F H (kvs.map (·.2)) (ps.map (·.2)) → Rep K ah F H v p →
    (kvs.map fun kv => if kv.1 = k then (kv.1, v) else kv).map (·.1) = (ps.map fun kv => if kv.1 = k then (kv.1, p) else kv).map (·.1) ∧ Reps K ah F H ((kvs.map fun kv => if kv.1 = k then (kv.1, v) else kv).map (·.2)) ((ps.map fun kv => if kv.1 = k then (kv.1, p) else kv).map (·.2))
  | [], [], _, _, _, _, _, _ => ⟨rfl, .nil⟩
  | kv :: kvs, q :: ps, k, v, p, e, r, rv => by
    rw [List.map_cons, List.map_cons] at e r
    cases r with
    | cons r t =>
      obtain ⟨i1, i2⟩ := put_map (k := k) (List.cons.inj e).2 t rv
      have e1 : kv.1 = q.1 := (List.cons.inj e).1
      rw [List.map_cons, List.map_cons, List.map_cons, List.map_cons, List.map_cons, List.map_cons]
      by_cases hk : q.1 = k
      · rw [if_pos hk, if_pos (e1.trans hk)]
        exact ⟨by rw [i1]; exact congrArg (· :: _) e1, .cons rv i2⟩
      · rw [if_neg hk, if_neg (fun z => hk (e1.symm.trans z))]
        exact ⟨by rw [i1]; exact congrArg (· :: _) e1, .cons r i2⟩
theorem put_rel {kvs : List (κ × V)} {ps : List (κ × PV)} {k : κ} {v : V} {p : PV} (e : kvs.map (·.1) = ps.map (·.1)) (r : Reps K ah F H (kvs.map (·.2)) (ps.map (·.2))) (rv : Rep K ah F H v p) :
    (putK kvs k v).map (·.1) = (dPut ps k p).map (·.1) ∧ Reps K ah F H ((putK kvs k v).map (·.2)) ((dPut ps k p).map (·.2)) := by
  unfold putK dPut
  rw [any_key e]
  by_cases h : (ps.any fun kv => decide (kv.1 = k)) = true
  · rw [if_pos h, if_pos h]
    exact put_map e r rv
  · rw [if_neg h, if_neg h]
    rw [List.map_append, List.map_append, List.map_append, List.map_append, e]
    exact ⟨rfl, r.append (.cons rv .nil)⟩
theorem Con.dK {v : V} {l : List (Key × PV)} (c : Con K ah F H v (.dK l)) : ∃ a kvs, v = .ref a ∧ H a = some (.dK kvs) ∧ kvs.length ≤ sizeLine ∧ kvs.map (·.1) = l.map (·.1) ∧ Reps K ah F H (kvs.map (·.2)) (l.map (·.2)) := by
  cases c with
  | rep r => cases r with | dK f h z e r => exact ⟨_, _, rfl, h, z, e, r⟩
  | own o => cases o with | dK h z e r => exact ⟨_, _, rfl, h, z, e, r⟩
theorem Con.dT {v : V} {l : List (List Key × PV)} (c : Con K ah F H v (.dT l)) : ∃ a kvs, v = .ref a ∧ H a = some (.dT kvs) ∧ kvs.length ≤ sizeLine ∧ kvs.map (·.1) = l.map (·.1) ∧ Reps K ah F H (kvs.map (·.2)) (l.map (·.2)) := by
  cases c with
  | rep r => cases r with | dT f h z e r => exact ⟨_, _, rfl, h, z, e, r⟩
  | own o => cases o with | dT h z e r => exact ⟨_, _, rfl, h, z, e, r⟩
end
/-! ### d[k] -/
theorem ix_dict {X : Cx} (hu : X.A.units + 1 < cLine) : IxR X (fun x y H Q => ∃ a v, x = .ref a ∧ DGet H a y (some v) ∧ Q v H) := by
  intro value slice pins s σ H x y v u Q I rx ry h hs
  obtain ⟨a, z, rfl, g, q⟩ := h
  cases rx
  exact PyProof.Rows.tail_any (dict_typeIs I g) PySem.F.slot_dict_getitem.lookup (d_getItem hu I g ry fun w' s3 I3 rw' => ⟨z, H, I3, rw', q⟩) hs
def pIxD : PV → PV → M PV
  | .dK l, q => liftO (keyP q) >>= fun k => liftO (dGet l k)
  | .dT l, .tup ks => liftO (keysP ks) >>= fun k => liftO (dGet l k)
  | p, q => pIx p q
theorem dget_con {K : Fg} {ah : Ax} {F : Addr → Prop} {H : Hp} {x y : V} {l : List (Key × PV)} {q z : PV} {k : Key} (c : Con K ah F H x (.dK l)) (d : Con K ah F H y q) (ek : keyP q = some k) (e : dGet l k = some z) : ∃ a v, x = .ref a ∧ DGet H a y (some v) ∧ Rep K ah F H v z := by
  obtain ⟨a, kvs, rfl, h, _, e1, r⟩ := c.dK
  obtain ⟨v, h1, h2⟩ := get_some e1 r e
  refine ⟨a, v, rfl, ?_, h2⟩
  rw [keyP_con d ek, ← h1]
  exact DGet.k h
theorem dgetT_con {K : Fg} {ah : Ax} {F : Addr → Prop} {H : Hp} {x y : V} {l : List (List Key × PV)} {q : List PV} {z : PV} {k : List Key} (c : Con K ah F H x (.dT l)) (d : Con K ah F H y (.tup q)) (ek : keysP q = some k) (e : dGet l k = some z) : ∃ a v, x = .ref a ∧ DGet H a y (some v) ∧ Rep K ah F H v z := by
  obtain ⟨a, kvs, rfl, h, _, e1, r⟩ := c.dT
  obtain ⟨v, h1, h2⟩ := get_some e1 r e
  obtain ⟨b, vs, rfl, hb, _, rb⟩ := d.tup
  rw [keysP_reps rb ek] at hb
  refine ⟨a, v, rfl, ?_, h2⟩
  rw [← h1]
  exact DGet.t h hb
section
variable {X : Cx}
theorem ops_ixD : OpS X (fun x y H Q => rIx X.K x y H Q ∨ ∃ a v, x = .ref a ∧ DGet H a y (some v) ∧ Q v H) pIxD := fun ah F H hs hs' x y p q z Q G c d e k => by
  unfold pIxD at e
  split at e
  · obtain ⟨kk, h1, q1, q2⟩ := M.bind_ok e
    obtain ⟨e1, e2⟩ := M.lift_ok q1
    obtain ⟨e3, e4⟩ := M.lift_ok q2
    cases e2
    cases e4
    obtain ⟨a, v, ex, g, rv⟩ := dget_con c d e1 e3
    exact .inr ⟨a, v, ex, g, k F H v .refl G rv⟩
  · obtain ⟨kk, h1, q1, q2⟩ := M.bind_ok e
    obtain ⟨e1, e2⟩ := M.lift_ok q1
    obtain ⟨e3, e4⟩ := M.lift_ok q2
    cases e2
    cases e4
    obtain ⟨a, v, ex, g, rv⟩ := dgetT_con c d e1 e3
    exact .inr ⟨a, v, ex, g, k F H v .refl G rv⟩
  · exact .inl (ops_ix ah F H hs hs' x y _ _ z Q G c d e k)
/-! ### k in d -/
def pInD (neg : Bool) : PV → PV → M PV
  | q, .dK l => liftO (keyP q) >>= fun k => pure (.bl (neg ^^ (dGet l k).isSome))
  | .tup ks, .dT l => liftO (keysP ks) >>= fun k => pure (.bl (neg ^^ (dGet l k).isSome))
  | p, q => pInB neg p q
def rInDct (neg : Bool) : R2 := fun y x H Q => ∃ a o, x = .ref a ∧ DGet H a y o ∧ Q (.bl (neg ^^ o.isSome)) H
theorem op_inDct (hu : X.A.units + 1 < cLine) : OpR X (compareOp .In) (rInDct false) := by
  intro pins s σ H x y v u Q I rx ry h
  obtain ⟨a, o, rfl, g, q⟩ := h
  cases ry
  exact d_in hu I g rx fun s1 I1 => ⟨.bl o.isSome, H, I1, rfl, by simpa using q⟩
theorem op_notInDct (hu : X.A.units + 1 < cLine) : OpR X (compareOp .NotIn) (rInDct true) := by
  intro pins s σ H x y v u Q I rx ry h
  obtain ⟨a, o, rfl, g, q⟩ := h
  cases ry
  exact d_notIn hu I g rx fun s1 I1 => ⟨.bl (!o.isSome), H, I1, rfl, by simpa using q⟩
theorem ops_inD (neg : Bool) : OpS X (fun x y H Q => rIn X.K neg x y H Q ∨ rInDct neg x y H Q) (pInD neg) := fun ah F H hs hs' x y p q z Q G c d e k => by
  unfold pInD at e
  split at e
  · obtain ⟨kk, h1, q1, q2⟩ := M.bind_ok e
    obtain ⟨e1, e2⟩ := M.lift_ok q1
    cases e2
    cases M.pure_ok q2
    obtain ⟨a, kvs, rfl, h, _, e3, r⟩ := d.dK
    refine .inr ⟨a, valV kvs kk, rfl, ?_, by rw [get_is e3]; exact k F H _ .refl G (.bl _)⟩
    rw [keyP_con c e1]
    exact DGet.k h
  · obtain ⟨kk, h1, q1, q2⟩ := M.bind_ok e
    obtain ⟨e1, e2⟩ := M.lift_ok q1
    cases e2
    cases M.pure_ok q2
    obtain ⟨a, kvs, rfl, h, _, e3, r⟩ := d.dT
    obtain ⟨b, vs, rfl, hb, _, rb⟩ := c.tup
    rw [keysP_reps rb e1] at hb
    exact .inr ⟨a, valV kvs kk, rfl, DGet.t h hb, by rw [get_is e3]; exact k F H _ .refl G (.bl _)⟩
  · exact .inl (ops_in neg ah F H hs hs' x y _ _ z Q G c d e k)
theorem opr_inD (hu : X.A.units + 1 < cLine) : OpR X (compareOp .In) (fun x y H Q => rIn X.K false x y H Q ∨ rInDct false x y H Q) := op_in_seq.or (op_inDct hu)
theorem opr_notInD (hu : X.A.units + 1 < cLine) : OpR X (compareOp .NotIn) (fun x y H Q => rIn X.K true x y H Q ∨ rInDct true x y H Q) := op_notIn_seq.or (op_notInDct hu)
/-! ### {} -/
def gNewK : EM := fun _ => pure (.dK [])
def gNewT : EM := fun _ => pure (.dT [])
variable {e a b c : Expr} {p p1 p2 pos : Pos} {g ga gb gi : EM} {x : Str} {W : EW}
theorem sf_newK : SF X (.Dict [] [] pos) gNewK := PE.wk pe_dnewK fun σ H Q ⟨ah, F, N, ρ, hs, p, hs', G, E, q, k⟩ => by
  cases M.pure_ok q
  exact fun a n => k F _ a (.laid n) (G.laid n) n (G.nf n) (.dK upd_same (Nat.zero_le _) rfl .nil)
theorem sf_newT : SF X (.Dict [] [] pos) gNewT := PE.wk pe_dnewT fun σ H Q ⟨ah, F, N, ρ, hs, p, hs', G, E, q, k⟩ => by
  cases M.pure_ok q
  exact fun a n => k F _ a (.laid n) (G.laid n) n (G.nf n) (.dT upd_same (Nat.zero_le _) rfl .nil)
theorem se_ixD (hu : X.A.units + 1 < cLine) (ha : SB X a ga) (hb : SB X b gb) (hs : PlainIx b) : SE X (.Subscript a b pos) (gBin pIxD ga gb) := PE.wk (pe_ix (ix_seq.or (ix_dict hu)) ha hb hs) (bin_w ops_ixD)
/-! ### d[k] = v, d of this frame's own -/
def putP : Option Slot → PV → PV → M PV
  | some (.ow (.dK l)), y, p => liftO (keyP y) >>= fun k => guardM (l.length < SZ) (pure (.dK (dPut l k p)))
  | some (.ow (.dT l)), .tup ks, p => liftO (keysP ks) >>= fun k => guardM (l.length < SZ) (pure (.dT (dPut l k p)))
  | _, _, _ => stuck
def sSetD (i : Nat) (gi g : EM) : SM := fun ρ => do
  let p ← g ρ
  let y ← gi ρ
  let q ← putP ρ[i]? y p
  pure (.nx (ρ.set i (.ow q)))
theorem putP_ok {o : Option Slot} {y p : PV} {hs : HS} {r : PV × HS} (h : putP o y p hs = .ok r) : r.2 = hs ∧ ((∃ l k, o = some (.ow (.dK l)) ∧ keyP y = some k ∧ l.length < SZ ∧ r.1 = .dK (dPut l k p)) ∨ ∃ l ks k, o = some (.ow (.dT l)) ∧ y = .tup ks ∧ keysP ks = some k ∧ l.length < SZ ∧ r.1 = .dT (dPut l k p)) := by
  unfold putP at h
  split at h
  · obtain ⟨kk, h3, q3, q⟩ := M.bind_ok h
    obtain ⟨ek, e4⟩ := M.lift_ok q3
    obtain ⟨hz, q⟩ := guard_ok q
    cases M.pure_ok q
    cases e4
    exact ⟨rfl, .inl ⟨_, _, rfl, ek, hz, rfl⟩⟩
  · obtain ⟨kk, h3, q3, q⟩ := M.bind_ok h
    obtain ⟨ek, e4⟩ := M.lift_ok q3
    obtain ⟨hz, q⟩ := guard_ok q
    cases M.pure_ok q
    cases e4
    exact ⟨rfl, .inr ⟨_, _, _, rfl, rfl, ek, hz, rfl⟩⟩
  · cases h
theorem dput_w {i : Nat} (D : Ends) (σ : L2.St) (H : Hp) (h : tSS X.K W (sSetD i gi g) D σ H) : tAsg (tS X.K g) (gSub (tVar i) (tS X.K gi) rSetD) D σ H := by
  obtain ⟨ah, F0, H0, F, ρ, hs, out, hs', I, q, f⟩ := h
  obtain ⟨p, h1, q1, q⟩ := M.bind_ok q
  obtain ⟨y, h2, q2, q⟩ := M.bind_ok q
  obtain ⟨u, h3, q3, q⟩ := M.bind_ok q
  cases M.pure_ok q
  obtain ⟨eh, gt⟩ := putP_ok q3
  cases eh
  have gt' : ∃ l, ρ[i]? = some (.ow l) := by
    rcases gt with ⟨l, k, e, _⟩ | ⟨l, ks, k, e, _⟩
    · exact ⟨_, e⟩
    · exact ⟨_, e⟩
  obtain ⟨l, e⟩ := gt'
  refine ⟨ah, F, _, ρ, _, p, _, I.gi, I.er, q1, fun F1 H1 v x1 G1 r1 => ?_⟩
  have I1 := I.step x1 G1
  obtain ⟨a, ea, _⟩ := I1.er.own e
  refine ⟨_, ea, ah, F1, _, ρ, _, _, _, I1.gi, I1.er, q2, fun F2 H2 v2 x2 G2 r2 => ?_⟩
  have I2 := I1.step x2 G2
  obtain ⟨a', ea', nf, na, n0, o⟩ := I2.er.own e
  rw [ea] at ea'
  cases ea'
  have rv := r1.mono (I1.gi.kp x2)
  rcases gt with ⟨l', kk, e', ek, hz, eu⟩ | ⟨l', ks, kk, e', ey, ek, hz, eu⟩
  · rw [e] at e'
    cases e'
    cases eu
    cases o with
    | @dK kvs _ hh z k r =>
      obtain ⟨p1, p2⟩ := put_rel (k := kk) k r rv
      have hl : kvs.length < sizeLine := by
        have := congrArg List.length k
        rw [List.length_map, List.length_map] at this
        rw [this, szE]; exact hz
      obtain ⟨I3, k3⟩ := I2.updO (u := .dK (putK kvs kk v)) (q0 := .dK (dPut l' kk p)) e ea nf na n0 hh trivial fun kp => .dK upd_same (by have := length_putK kvs kk v; omega) p1 (p2.mono kp)
      refine ⟨a, _, rfl, ?_, f F2 _ σ I3 (((I.gi.kp x1).trans (I1.gi.kp x2)).trans k3)⟩
      rw [keyP_con (.rep r2) ek]
      exact DPut.k hh hl
  · rw [e] at e'
    cases e'
    cases eu
    cases ey
    cases o with
    | @dT kvs _ hh z k r =>
      obtain ⟨p1, p2⟩ := put_rel (k := kk) k r rv
      have hl : kvs.length < sizeLine := by
        have := congrArg List.length k
        rw [List.length_map, List.length_map] at this
        rw [this, szE]; exact hz
      obtain ⟨I3, k3⟩ := I2.updO (u := .dT (putK kvs kk v)) (q0 := .dT (dPut l' kk p)) e ea nf na n0 hh trivial fun kp => .dT upd_same (by have := length_putK kvs kk v; omega) p1 (p2.mono kp)
      cases r2 with
      | tup hb zb rb =>
        rw [keysP_reps rb ek] at hb
        exact ⟨a, _, rfl, DPut.t hh hb hl, f F2 _ σ I3 (((I.gi.kp x1).trans (I1.gi.kp x2)).trans k3)⟩
theorem ss_setD {i : Nat} (hu : X.A.units + 1 < cLine) (hx : PE X (.Name x p) (tVar i)) (hi : SE X a gi) (he : SE X e g) (hs : swapsWithSole [.Subscript (.Name x p) a p1] e pos.line X.env = pure false := by rfl) (hw : swappedStores [.Subscript (.Name x p) a p1] e X.env = pure none := by rfl)
    (h1 : (assignEach [.Subscript (.Name x p) a p1] X.env).map (·.2) = [assign (.Subscript (.Name x p) a p1) X.env] := by rfl)
    (ha : ∀ v, assign (.Subscript (.Name x p) a p1) X.env v = (do
      let ov ← holding [v] (eval (.Name x p) X.env)
      let iv ← holding [v, ov] (eval a X.env)
      standAt p1
      holding [v, ov, iv] (setItem ov iv v)
      release [v, ov, iv] []) := by intro _; rfl) : SS X W (.Assign [.Subscript (.Name x p) a p1] e pos) (sSetD i gi g) := PS.wk (ps_asg he (pg_sub hx hi (set_dict hu) ha) hs hw h1) dput_w
end
end SL

end
section
/-! SLr: walks: range down, enumerate -/
namespace SL
open PySem PySem.Spec PyProof.Rows L2
variable [Tbs]
def down (lo : Int) (n : Nat) : List PV := (List.range n).map fun (i : Nat) => PV.int (lo - i)
def iDown (gs : Ev → M (List PV)) : IM := fun ρ => do
  let xs ← gs ρ
  match xs with
  | [.int i, .int j, .int c] => guardM (c = -1 ∧ -(2 ^ 62) ≤ i ∧ i < 2 ^ 62 ∧ -(2 ^ 62) ≤ j ∧ j < 2 ^ 62 ∧ (i - j).toNat ≤ SZ) (pure (down i (i - j).toNat))
  | _ => stuck
section
variable {K : Fg} {ah : Ax} {F : Addr → Prop} {H : Hp} {a : Addr} {vs : List V} {ps : List PV}
theorem itw_down {lo : Int} {n : Nat} : ItW K ah F H (Itc lo (-1) n) (down lo n) := by
  refine ⟨fun i F1 H1 kp hi => ?_, fun F1 H1 kp => ?_, fun i F1 H1 hs x H2 kp g hi y => ?_⟩
  · have h : i < n := by simpa [down] using hi
    exact h
  · show n ≤ _
    simp [down]
  · obtain ⟨e, y⟩ := y
    subst e y
    have hi : i < n := by simpa [down] using hi
    refine ⟨.int (lo - i), by simp [down, hi], .refl, g, ?_⟩
    have e : lo + (i : Int) * (-1) = lo - i := by omega
    rw [e]
    exact .int _
theorem itw_enum (f : F a) (h : H a = some (.lst vs)) (r : Reps K ah F H vs ps) : ItW K ah F H (Ite K a) (((rng 0 ps.length).zip ps).map fun t => .tup [t.1, t.2]) := by
  have hl : (((rng 0 ps.length).zip ps).map fun t : PV × PV => PV.tup [t.1, t.2]).length = ps.length := by simp [rng]
  refine ⟨fun i F1 H1 kp hi => ?_, fun F1 H1 kp => ?_, fun i F1 H1 hs x H2 kp g hi y => ?_⟩
  · rw [hl] at hi
    have h1 : i < vs.length := by rw [r.length]; exact hi
    exact ⟨vs, vs[i], .of (kp.keep _ _ f h), by simp [h1]⟩
  · exact ⟨vs, .of (kp.keep _ _ f h), by rw [hl, r.length]; exact Nat.le_refl _⟩
  · rw [hl] at hi
    obtain ⟨T, x', rfl, n, rfl, y⟩ := y
    obtain ⟨p, h1, h2⟩ := (r.mono kp).getV (y vs (.of (kp.keep _ _ f h)))
    refine ⟨.tup [.int i, p], ?_, .laid n, g.laid n, .tup upd_same (by rw [szE]; show 2 ≤ SZ; decide) (.cons (.int _) (.cons (h2.mono (g.kpL n)) .nil))⟩
    rw [List.getElem?_map]
    have : ((rng 0 ps.length).zip ps)[i]? = some (.int i, p) := by
      rw [List.getElem?_zip_eq_some]
      exact ⟨by simp [rng, hi], h1⟩
    rw [this]; rfl
end
theorem si_down {X : Cx} {tg a b c : Expr} {gs : Ev → M (List PV)} {p pos : Pos} (hm : X.mg "range" = none) (ha : SA X [a, b, c] gs) (hg : Gl X "range" := by rfl) (hs : starEach [a, b, c] X.env = (false, eval a X.env) :: starEach [b, c] X.env := by rfl) (hpl : (backTo pos (starEach [b, c] X.env)).any (·.1) = false := by rfl) (hn : Rows gs 3) :
    SI X tg (.Call (.Name "range" p) [a, b, c] [] pos) (iDown gs) :=
  PI.wk (pi_range3 hg hm ha hs hpl) fun σ H R ⟨ah, F, N, ρ, hs, ps, hs', G, E, q, k⟩ => by
    obtain ⟨x, h1, q1, q⟩ := M.bind_ok q
    refine ⟨ah, F, N, ρ, hs, x, h1, G, E, q1, fun F1 H1 v1 x1 G1 r1 => ?_⟩
    have hl := hn _ _ _ _ q1
    match x, hl with
    | [y, y2, y3], _ =>
      cases y <;> first | (cases q; done) | skip
      cases y2 <;> first | (cases q; done) | skip
      cases y3 <;> first | (cases q; done) | skip
      obtain ⟨hb, q⟩ := guard_ok q
      cases M.pure_ok q
      cases r1 with
      | cons r t =>
        cases t with
        | cons r2 t =>
          cases t with
          | cons r3 t =>
            cases t
            cases r
            cases r2
            cases r3
            obtain ⟨rfl, b1, b2, b3, b4, b5⟩ := hb
            refine ⟨_, _, _, _, rfl, RgC.neg b1 b2 b3 b4, k F1 H1 _ x1 G1 itw_down ?_⟩
            rw [szE]
            show (List.map _ _).length ≤ _
            rw [List.length_map, List.length_range]
            exact b5
def iEnumL (gs : Ev → M (List PV)) : IM := fun ρ => do
  let xs ← gs ρ
  match xs with
  | [.lst l] => pure (((rng 0 l.length).zip l).map fun t => .tup [t.1, t.2])
  | _ => stuck
theorem si_enum {X : Cx} {e : Expr} {gs : Ev → M (List PV)} {p pos tpos : Pos} {elts : List Expr} {kk : Nat} (hm : X.mg "enumerate" = none) (ha : SA X [e] gs) (hg : Gl X "enumerate" := by rfl) (hs : starEach [e] X.env = [(false, eval e X.env)] := by rfl) (hn : Rows gs 1) :
    SI X (.Tuple elts kk tpos) (.Call (.Name "enumerate" p) [e] [] pos) (iEnumL gs) :=
  PI.wk (pi_enum hg hm ha hs) fun σ H R ⟨ah, F, N, ρ, hs, ps, hs', G, E, q, k⟩ => by
    obtain ⟨x, h1, q1, q⟩ := M.bind_ok q
    refine ⟨ah, F, N, ρ, hs, x, h1, G, E, q1, fun F1 H1 v1 x1 G1 r1 => ?_⟩
    have hl := hn _ _ _ _ q1
    match x, hl with
    | [y], _ =>
      cases y <;> first | (cases q; done) | skip
      cases M.pure_ok q
      cases r1 with
      | cons r t =>
        cases t
        cases r with
        | lst f h z r =>
          refine ⟨_, _, rfl, .of h, k F1 H1 _ x1 G1 (itw_enum f h r) ?_⟩
          rw [List.length_map, List.length_zip]
          have := r.length
          omega
end SL
namespace SL
theorem hu1 {n : Nat} (h : n + 64 < PySem.cLine) : n + 1 < PySem.cLine := by omega
end SL

end
section
/-! SLs: lambdas with parameters, no captured names, handed on as values -/
namespace SL
open PySem PySem.Spec PyProof.Rows L2 LamX NdefX
variable [Tbs]
/-- only tables grow, only new things come -/
structure ExtT (H H' : Hp) : Prop where
  keep : ∀ a o, NT o → H a = some o → H' a = some o
  tbl : ∀ a ps, H a = some (.tbl ps) → ∃ more, H' a = some (.tbl (ps ++ more))
section
variable {K : Fg} {ah : Ax} {F : Addr → Prop} {H H' : Hp} {hs : HS}
theorem ExtT.ext (e : ExtT H H') : Ext K ah F H F H' := ⟨fun _ h => h, fun _ h => .inl h, fun a o _ t h => e.keep a o t h, e.tbl⟩
theorem ExtT.gi (e : ExtT H H') (g : GI K ah F H hs) (t : Tabs Tbs.tb H') : GI K ah F H' hs := by
  have kp := g.kp (e.ext (K := K) (ah := ah) (F := F))
  refine ⟨fun a f z => ?_, fun a h => ?_, t, fun a ps f z => ?_⟩
  · cases q : H a with
    | none => exact g.fin a f q
    | some o => rw [kp.keep a o f q] at z; cases z
  · obtain ⟨f, vs, h, z, r⟩ := g.at_ a h
    exact ⟨f, vs, e.keep _ _ (fun _ z => by cases z) h, z, r.mono kp⟩
  · cases q : H a with
    | none => exact g.fin a f q
    | some o =>
      rw [kp.keep a o f q] at z
      cases z
      exact g.nt a ps f q
end
section
variable {X : Cx} {pins : List (Addr × Obj)} {σ : L2.St} {H : Hp} {s : Shared}
/-- the lambda's object, just made, is known from now on -/
theorem inv_lam {d : LD} {c' : Addr} {o : Obj} {t' : Nat} {pm ctv : Value} (I : Inv X pins σ H s) (ho : o = PySem.W.kla_obj "<lambda>" d.qual d.params d.body d.scope [] pm c' ctv) :
    Inv X pins σ (upd H s.heap.objs.size (LamO s.heap.objs.size d c')) { s with heap := s.heap.push o, toks := t' } := by
  subst ho
  refine I.laid (a := s.heap.objs.size) (fun b u e => Heap.get?_push_of_some _ e) (Nat.le_refl _) ?_
  have e : (s.heap.push (PySem.W.kla_obj "<lambda>" d.qual d.params d.body d.scope [] pm c' ctv)).get? s.heap.objs.size = some (PySem.W.kla_obj "<lambda>" d.qual d.params d.body d.scope [] pm c' ctv) := Heap.get?_push_size _ rfl
  exact ⟨⟨pm, ctv, e⟩, ⟨_, e⟩, fun h1 h2 ⟨p, t, z⟩ st => ⟨p, t, st _ z⟩⟩
theorem lam_mk {c P : Addr} {d : LD} {pos : Pos} {E : Value → Shared → Prop} {Q : Value → Shared → Prop} (I : Inv X pins σ H s) (TB : TabB X.base X.mg c P) (hcode : X.env.code = .ref c) (hq : d.qual = X.env.qual ++ "<lambda>")
    (hm : (P, d.qual) ∈ Tbs.tb) (hu : ∀ p ∈ Tbs.tb, p.1 = P → p.2 = d.qual) (hT : Tabs Tbs.tb H) (hdef : defaultsOf d.params X.env = ([], [])) (hfree : ∀ y ∈ d.scope.names, y.2 ≠ .free) (hcl : cloFrom X.env.cells d.scope.names [] = [])
    (h : ∀ (f c' : Addr) (H1 : Hp) (s' : Shared), Inv X pins σ H1 s' → ExtT H H1 → Tabs Tbs.tb H1 → H1 f = some (LamO f d c') → H1 c' = some (CodeO c' d.qual) → Q (.ref f) s') :
    wpAny (model X.prog X.w) X.A (eval (.Lambda d.params d.body d.scope pos) X.env) Q E s := by
  obtain ⟨ps, hP, ht, ha⟩ := hT _ hm
  refine PySem.W.kla_eval hdef ?_
  have bP : s.heap.BuiltinsAt X.mg P := TB.bm.keeps I.bk
  have hP' : s.heap.get? P = some { cls := .none, data := .fields ps } := I.hok P _ hP
  have hclo : closureFor d.scope X.env = pure [] := by
    have := closure_ok (env := X.env) (scope := d.scope) (fun y hy e => absurd e (hfree y hy))
    rw [hcl] at this
    exact this
  rw [← hq]
  cases hc : codeAmong pos ps.toList with
  | none =>
    refine PySem.W.kla_makeFunction (mg := X.mg) (c := c) (P := P) (ps := ps) hclo I.ok.glob (I.mod.glob.keeps I.bk) hcode (TB.code.keeps I.bk) hP' ht hc TB.gP bP fun c' ctv h' tk hx hge hlt hrec htb => ?_
    obtain ⟨c2, oc, vs, t, e2, hoc, hd, hv⟩ := hrec
    cases e2
    have nC : H c' = none := I.hok.fresh hge
    have I1 := inv_table (t' := tk) (more := #[rawInt pos.line, rawInt pos.col, .ref c']) (h' := h') I hP (fun b o hb e => hx b o hb e) htb hge ⟨oc, vs, t, hoc, hd, hv⟩
    have e1 : ExtT H (upd (upd H P (.tbl (ps ++ #[rawInt pos.line, rawInt pos.col, .ref c']))) c' (CodeO c' d.qual)) := by
      refine ⟨fun b o n e => ?_, fun b qs e => ?_⟩
      · rw [upd_ne (ne_of_none e nC), upd_ne (fun z => n ps (Option.some.inj (e.symm.trans (by rw [z]; exact hP))))]
        exact e
      · rw [upd_ne (ne_of_none e nC)]
        by_cases hb : b = P
        · subst hb
          rw [hP] at e
          cases e
          exact ⟨_, upd_same⟩
        · rw [upd_ne hb]; exact tbl_same e
    have eL : (ps ++ #[rawInt pos.line, rawInt pos.col, .ref c']).toList = ps.toList ++ [rawInt pos.line, rawInt pos.col, .ref c'] := by simp
    have T1 : Tabs Tbs.tb (upd (upd H P (.tbl (ps ++ #[rawInt pos.line, rawInt pos.col, .ref c']))) c' (CodeO c' d.qual)) := fun p hp => by
      by_cases hb : p.1 = P
      · rw [hu p hp hb, hb]
        refine ⟨_, by rw [upd_ne (ne_of_none hP nC), upd_same], by rw [eL]; exact PySem.TriplesOk_snoc _ _ _ _ ht, fun p' cv hcv => ?_⟩
        rw [eL] at hcv
        rcases among_app _ ht hcv with z | z
        · obtain ⟨c0, e1', e2⟩ := ha p' cv z
          exact ⟨c0, e1', e1.keep _ _ (fun _ z => codeO_ne _ z) e2⟩
        · exact ⟨c', z, upd_same⟩
      · obtain ⟨ps', a1, a2, a3⟩ := hT p hp
        refine ⟨ps', by rw [upd_ne (ne_of_none a1 nC), upd_ne hb]; exact a1, a2, fun p' cv hcv => ?_⟩
        obtain ⟨c0, e1', e2⟩ := a3 p' cv hcv
        exact ⟨c0, e1', e1.keep _ _ (fun _ z => codeO_ne _ z) e2⟩
    have nF := I1.hok.fresh (Nat.le_refl _)
    have I2 := inv_lam (d := d) (c' := c') (t' := tk) (pm := (X.mg "__name__").getD .none) (ctv := ctv) I1 rfl
    refine h h'.objs.size c' _ _ I2 ⟨fun b o n e => ?_, fun b qs e => ?_⟩ (T1.ext fun b o e => ?_) upd_same ?_
    · exact (upd_ne (ne_of_none (e1.keep b o n e) nF)).trans (e1.keep b o n e)
    · obtain ⟨more, e3⟩ := e1.tbl b qs e
      exact ⟨more, (upd_ne (ne_of_none e3 nF)).trans e3⟩
    · exact (upd_ne (ne_of_none e nF)).trans e
    · exact (upd_ne (Nat.ne_of_lt hlt)).trans upd_same
  | some cv =>
    obtain ⟨c', e, hco⟩ := ha pos cv hc
    subst e
    refine PySem.W.kla_makeFunctionHit (mg := X.mg) (c := c) (P := P) (ps := ps) hclo I.ok.glob (I.mod.glob.keeps I.bk) hcode (TB.code.keeps I.bk) hP' ht hc bP fun ctv h' tk hx hsz => ?_
    have I1 : Inv X pins σ H { s with heap := h', toks := tk } := I.kept hx
    have nF : H h'.objs.size = none := I1.hok.fresh (Nat.le_refl _)
    have I2 := inv_lam (d := d) (c' := c') (t' := tk) (pm := (X.mg "__name__").getD .none) (ctv := ctv) I1 rfl
    refine h h'.objs.size c' _ _ I2 ⟨fun b o n e => ?_, fun b qs e => ?_⟩ (hT.ext fun b o e => ?_) upd_same ?_
    · exact (upd_ne (ne_of_none e nF)).trans e
    · exact tbl_same ((upd_ne (ne_of_none e nF)).trans e)
    · exact (upd_ne (ne_of_none e nF)).trans e
    · exact (upd_ne (ne_of_none hco nF)).trans hco
/-- lambda ..: .., as a value -/
theorem se_lam {c P : Addr} {i : Nat} {params : Arguments} {body : Expr} {scope : Scope} {pos : Pos} (TB : TabB X.base X.mg c P) (hcode : X.env.code = .ref c) (hd : Tbs.ld i = ⟨X.env.qual ++ "<lambda>", params, body, scope⟩)
    (hm : (P, X.env.qual ++ "<lambda>") ∈ Tbs.tb) (hu : ∀ p ∈ Tbs.tb, p.1 = P → p.2 = X.env.qual ++ "<lambda>") (hdef : defaultsOf params X.env = ([], [])) (hfree : ∀ y ∈ scope.names, y.2 ≠ .free) (hcl : cloFrom X.env.cells scope.names [] = []) :
    SE X (.Lambda params body scope pos) (gC (.lam i)) := ⟨fun pins s σ H Q I ⟨ah, F, N, ρ, hs, p, hs', G, E, q, k⟩ => by
  cases M.pure_ok q
  refine lam_mk (d := ⟨X.env.qual ++ "<lambda>", params, body, scope⟩) I TB hcode rfl hm hu G.tabs hdef hfree hcl fun f c' H1 s' I1 e1 t1 hf hc => ?_
  refine ⟨.ref f, H1, I1, rfl, k F H1 _ e1.ext (e1.gi G t1) ?_⟩
  rw [← hd] at hf
  exact .lam hf (by rw [hd]; exact hc)⟩
end
/-! ### called -/
def LD.nf (d : LD) (c : Addr) : NF := ⟨"<lambda>", d.qual, d.params, [], d.scope, [], c⟩
/-- the i-th lambda, n parameters, level k, the mirror m -/
def LamK (P : Program) (w : World) (K : Fg) (mg : Str → Option Value) (base : Heap) (k i n : Nat) (m : List PV → M PV) : Prop :=
  ∀ (f c' : Addr) (A : Around) (outer : List Env) (s : Shared) (H : Hp) (us : List Value) (vs : List V) (Q : VK) (E : XK), Room k A → Env0 P w K mg base A outer s H → H f = some (LamO f (Tbs.ld i) c') → H c' = some (CodeO c' (Tbs.ld i).qual) → Vals vs us → spM K n m vs H Q E →
    codeAny (model P w) A (.call (.ref f) ⟨us, []⟩) (CR CX0 outer P w H s Q E) s
def fnE (nl : Nat) (g : EM) : List PV → M PV := fun ps => g (ev0 nl ps)
theorem lam_ok {P : Program} {w : World} {K : Fg} {mg : Str → Option Value} {base : Heap} {k i : Nat} {N ps : List Str} {g : EM} (S : NScope N ps [] (Tbs.ld i).scope)
    (hb : ∀ (cl : List (Str × Addr)) (pm cv ctv : Value) (us : List Value), us.length = ps.length → bindArgs (PySem.W.kla_fn "<lambda>" (Tbs.ld i).qual (Tbs.ld i).params (Tbs.ld i).body (Tbs.ld i).scope cl pm cv ctv) ⟨us, []⟩ = pure (ps.zip us))
    (hbody : ∀ (A : Around) (outer : List Env) (s : Shared) (H : Hp) (E : XK) (f c' : Addr), Room k (A.deeper (envF ((Tbs.ld i).nf c') f s.heap.objs.size)) → SE (ncx CX0 P w K mg base N ((Tbs.ld i).nf c') f A outer s H E) (Tbs.ld i).body g) :
    LamK P w K mg base (k + 1) i ps.length (fnE N.length g) := by
  intro f c' A outer s H us vs Q E hr e0 hf hc r hsp
  obtain ⟨hl, ah, F, qs, hs, p, hs', G, rr, q, kk⟩ := hsp
  have lim : s.heap.NoLimit := e0.mod.nolimit.keeps fun b o e => (e0.bs b o e).1
  obtain ⟨⟨pm, ctv, ho⟩, _, _⟩ := e0.hok f _ hf
  refine PySem.W.kla_callFunE hr.depth ho rfl S.co S.gen rfl (codeO_at e0.hok hc) ?_
  rw [hb _ pm _ ctv us (by rw [← r.length]; exact hl)]
  refine wpAny_pure (wpAny_newFunctionEnv S.nocell (fun ⟨n, _⟩ hy => S.par n (List.of_mem_zip hy).1) (fun h₁ hns hsb => ⟨lim.fresh _ hsb, ?_⟩) S.kind)
  show codeAny _ _ (.expr (Tbs.ld i).body (envF ((Tbs.ld i).nf c') f s.heap.objs.size)) _ _
  have kp : ∀ b o, s.heap.get? b = some o → h₁.get? b = some o := fun b o e => hsb.extBut b o (Nat.ne_of_lt (Heap.lt_size e)) (Heap.get?_push_of_some _ e)
  have C : CellsAt ((Tbs.ld i).nf c').cl [] [] s.heap H := ⟨rfl, fun y c e => (by cases e), fun x y c e => (by cases e), fun j y e => (by cases e)⟩
  have I : Inv (ncx CX0 P w K mg base N ((Tbs.ld i).nf c') f A outer s H E) [] (startF N vs []) H { s with heap := h₁, toks := s.toks + (ps.zip us).length } := inv_startN S hr.hd e0 hl r C hns kp
  have hst : startF N vs [] = L2.start N vs := by
    unfold startF L2.start
    simp
  rw [hst] at I
  refine PySem.W.kla_codeExpr (wpAny_mono ((hbody A outer s H E f c' (hr.deeper _)).run [] _ _ H Q I ⟨ah, F, fun _ => True, ev0 N.length qs, hs, p, hs', G, er_start rr, q, kk⟩) (fun v s' hq => ?_) fun e s' hq => hq)
  obtain ⟨w', H', J', rv, q⟩ := hq
  exact ⟨w', H', J'.os, J'.bare, J'.base, J'.hok, rv, q⟩
def lamOf : PV → Option Nat
  | .lam i => some i
  | _ => none
theorem lamOf_some {p : PV} {i : Nat} (h : lamOf p = some i) : p = .lam i := by
  cases p <;> cases h
  rfl
def gCallL (lm : Nat → Option (List PV → M PV)) (j : Nat) (gs : Ev → M (List PV)) : EM := fun ρ => do
  let p ← slF ρ[j]?
  let i ← liftO (lamOf p)
  let m ← liftO (lm i)
  let xs ← gs ρ
  m xs
section
variable {X : Cx} {lm : Nat → Option (List PV → M PV)} {k n j : Nat} {x : Str} {e : Expr} {es : List Expr} {p pos : Pos} {gs : Ev → M (List PV)}
theorem se_callL (hl : ∀ i m, lm i = some m → LamK X.prog X.w X.K X.mg X.base k i n m) (hr : Room k X.A) (hN : X.N[j]? = some x) (hv : Vis X.env.scope x) (ha : SA X (e :: es) gs) (hn : Rows gs n)
    (hd : (x == ("__debug__" : Str)) = false := by decide) (hcd : (x == ("__classdict__" : Str)) = false := by decide)
    (he : starEach (e :: es) X.env = (false, eval e X.env) :: starEach es X.env := by rfl) (hpl : (backTo pos (starEach es X.env)).any (·.1) = false := by rfl) : SE X (.Call (.Name x p) (e :: es) [] pos) (gCallL lm j gs) := ⟨fun pins s σ H Q I ⟨ah, F, N, ρ, hs, p1, hs', G, E, q, k1⟩ => by
  obtain ⟨p0, h1, q1, qa⟩ := M.bind_ok q
  obtain ⟨i, h3, q3, qb⟩ := M.bind_ok qa
  obtain ⟨m, h4, q4, qc⟩ := M.bind_ok qb
  obtain ⟨xs, h2, q2, qd⟩ := M.bind_ok qc
  obtain ⟨e1, e2⟩ := slF_ok q1
  obtain ⟨e3, e4⟩ := M.lift_ok q3
  obtain ⟨hm, e6⟩ := M.lift_ok q4
  have e2 : h1 = hs := e2
  have e4 : h3 = h1 := e4
  have e6 : h4 = h3 := e6
  rw [e6, e4, e2] at q2
  have ep := lamOf_some e3
  have e1 : ρ[j]? = some (.fz p0) := e1
  rw [ep] at e1
  obtain ⟨v0, ev, r0⟩ := E.get e1
  obtain ⟨f, c', rfl, hf, hc⟩ : ∃ f c', v0 = .ref f ∧ H f = some (LamO f (Tbs.ld i) c') ∧ H c' = some (CodeO c' (Tbs.ld i).qual) := by
    cases r0 with
    | lam hf hc => exact ⟨_, _, rfl, hf, hc⟩
  refine wpAny_Call_Name_kw (thn ((pe_var (pos := p) hN hv hd hcd).run pins s σ H (fun v H1 => v = .ref f ∧ H1 = H) I ⟨.ref f, ev, rfl, rfl⟩) fun u s1 ⟨v, H1, I1, r1, q1⟩ => ?_)
  obtain ⟨ev, eH⟩ := q1
  subst ev
  rw [eH] at I1
  obtain rfl : u = Value.ref f := r1
  have at_ : ∀ {σ2 : L2.St} {H2 : Hp} {s2 : Shared}, Inv X pins σ2 H2 s2 → H2 f = some (LamO f (Tbs.ld i) c') → PySem.W.FnAt f s2.heap := fun {σ2 H2 s2} I2 hf => by
    obtain ⟨⟨pm, ctv, ho⟩, _, _⟩ := I2.hok f _ hf
    exact ⟨_, _, _, _, ho⟩
  refine PySem.W.callWith_F (first := []) (at_ I1 hf) (thn (ha.run pos pins s1 σ H (fun vs H2 => H2 f = some (LamO f (Tbs.ld i) c') ∧ H2 c' = some (CodeO c' (Tbs.ld i).qual) ∧ spM X.K n m vs H2 Q (fun _ _ _ => False)) I1 ?_) fun us s2 ⟨vs, H2, I2, r, g1, g2, qq⟩ => ⟨at_ I2 g1, ?_⟩) he hpl
  · refine ⟨ah, F, N, ρ, hs, xs, h2, G, E, q2, fun F' H' vs x' G' r' => ?_⟩
    have kp := G.kp x'
    exact ⟨kp.ext _ _ hf, kp.ext _ _ hc, by rw [r'.length]; exact hn _ _ _ _ q2, ah, F', xs, h2, p1, hs', G', r', qd, fun F2 H2 v x2 G2 r2 => k1 F2 H2 v (x'.trans G G' x2) G2 r2⟩
  · show wpAny _ _ (call (.ref f) us) _ _ _
    refine wpAny_call (codeAny_mono (hl i m hm f c' X.A X.stack s2 H2 us vs Q (fun _ _ _ => False) hr I2.env0 g1 g2 r qq) fun r s' hq => ?_)
    cases r with
    | error e => exact (show False from hq).elim
    | ok fl =>
      cases fl with
      | ret u => exact I2.after hq
      | next => exact False.elim hq
      | brk => exact False.elim hq
      | cont => exact False.elim hq⟩
end
end SL

end
section
namespace SL
open PySem PySem.Spec PyProof.Rows L2
variable [Tbs]
/-! ### exceptions: raise X(), defs that raise -/
/-- x is a class of errors without an own __init__ -/
def ExK (K : Fg) (mg : Str → Option Value) (x : Str) : Prop := ∃ (C : Addr) (bmB : List Value) (B newId initId : String), mg x = some (.ref C) ∧ PySem.W.keepIn K (.ref C) = true ∧ ExcBaseFacts B newId initId bmB ∧ PySem.W.excIn K C bmB newId = true ∧
  PySem.W.subIn K (.ref C) (.type "BaseException") = some true ∧ PySem.W.typeIn K (.ref C) = some (.type "type")
/-- X() -/
theorem pmk_own0 {X : Cx} {C : Addr} {bmB : List Value} {B newId initId : String} {x : Str} {p pos : Pos} (F : ExcBaseFacts B newId initId bmB) (q : PySem.W.excIn X.K C bmB newId = true) (gC : X.mg x = some (.ref C))
    (kC : PySem.W.keepIn X.K (.ref C) = true) (r : Raises X (.ref C)) (hg : Gl X x) (hdb : (x == ("__debug__" : Str)) = false := by decide) :
    PMk X (.Call (.Name x p) [] [] pos) (fun σ H Q => Q (.ref C) none H) := by
  intro pins s σ H Q I h
  refine wpAny_Call_Name_kw (ld_glob I hg gC ?_ hdb)
  refine PySem.W.callWith_K0 I.kIn kC ?_
  obtain ⟨bm, N, nm, qn, bs, hdct, sn, sub, ab, col, dd, k0, k1, k2, k3, k5, mN, hC, hN, hni, T⟩ := exc_obj I.kIn q
  refine wpAny_call_exc_subT F T hC hN hni (fun h' e hm => ?_) (by show 0 ≤ sizeLine; omega)
  exact mk_of I hm r h (I.hok.gone hm.new)
/-- a wish of the layer as one of the kit -/
def XdOk (d : Option Addr) (H : Hp) : Prop := ∀ dx, d = some dx → ∃ fs, H dx = some (.xd fs)
theorem xdNone {H : Hp} : XdOk none H := fun _ z => by cases z
def upW (mg : Str → Option Value) (W : EW) : WX := fun cls d _ H => XdOk d H ∧ ∃ c, mg c = some cls ∧ W c H
def sRaise (c : Str) : SM := fun _ => pure (.ex c)
section
variable {X : Cx} {W : EW}
theorem ss_raise {x : Str} {p pos pos' : Pos} (hc : X.calm = true) (tk : Takes X (upW X.mg W)) (h : ExK X.K X.mg x) (hg : Gl X x := by rfl) (hdb : (x == ("__debug__" : Str)) = false := by decide) :
    SS X W (.Raise (some (.Call (.Name x p) [] [] pos)) none pos') (sRaise x) := by
  obtain ⟨C, bmB, B, newId, initId, hm, hk, hF, hq, h1, h2⟩ := h
  refine PS.wk (ps_raise hc tk (pmk_own0 hF hq hm hk (raises_own h1 h2) hg hdb)) fun D σ H ⟨ah, F0, H0, F, ρ, hs, out, hs', I, q, f⟩ => ?_
  cases M.pure_ok q
  exact ⟨xdNone, x, hm, f F H I.ext I.gi⟩
end
/-! a def that may raise -/
abbrev PE' := PV ⊕ Str
def spX (K : Fg) (mg : Str → Option Value) (n : Nat) (m : List PV → M PE') : Sp := fun vs H Q E => vs.length = n ∧ ∃ ah F ps hs r hs', GI K ah F H hs ∧ Reps K ah F H vs ps ∧ m ps hs = .ok (r, hs') ∧
  match r with
  | .inl p => ∀ F' H' v, Ext K ah F H F' H' → GI K ah F' H' hs' → Rep K ah F' H' v p → Q v H'
  | .inr c => ∀ F' H' cls d, Ext K ah F H F' H' → GI K ah F' H' hs' → XdOk d H' → mg c = some cls → E cls d H'
def KnownX (P : Program) (w : World) (K : Fg) (mg : Str → Option Value) (base : Heap) (x : Str) (n k : Nat) (m : List PV → M PE') : Prop :=
  ∃ f fd ps, mg x = some (.ref f) ∧ PySem.W.keepIn K (.ref f) = true ∧ L2.Binds K fd ps [] ∧ FnOk P w K mg base (L2.CX P w) k f fd ps (spX K mg n m)
def fnX (nl : Nat) (g : SM) : List PV → M PE' := fun ps => do
  let o ← g (ev0 nl ps)
  match o with
  | .rt p => pure (.inl p)
  | .nx _ => pure (.inl .non)
  | .ex c => pure (.inr c)
  | _ => stuck
section
variable {P : Program} {w : World} {K : Fg} {mg : Str → Option Value} {base : Heap}
theorem ok_fnX {x qual : Str} {st : Stmt} {f : Addr} {fd : FuncData} {Ns ps : List Str} {k : Nat} {g : SM} (Fu : Fun K x qual st f fd) (S : FnScope Ns ps (defScope st))
    (hb : ∀ (W : EW) (cdv : Value) (A : Around) (outer : List Env) (s : Shared) (H : Hp) (E : XK), Room k (A.deeper (envOfC qual (defScope st) s.heap.objs.size f cdv)) →
      Takes (cxOf (L2.CX P w) P w K mg base Ns qual (defScope st) f cdv A outer s H E) (upW mg W) → SSs (cxOf (L2.CX P w) P w K mg base Ns qual (defScope st) f cdv A outer s H E) W (defBody st) g) :
    FnOk P w K mg base (L2.CX P w) (k + 1) f fd ps (spX K mg ps.length (fnX Ns.length g)) := by
  refine okXF Fu S (fun vs H Q E h => h.1) fun cdv A outer s H vs Q E hr h => ?_
  refine ⟨_, hb (fun c H' => ∀ cls d, XdOk d H' → mg c = some cls → E cls d H') cdv A outer s H E hr (Takes.imp (takes_of (X := cxOf (L2.CX P w) P w K mg base Ns qual (defScope st) f cdv A outer s H E) (E := E) rfl rfl rfl rfl) fun c d σ H ⟨hd, c', hm, hW⟩ => hW _ _ hd hm), ?_⟩
  obtain ⟨hl, ah, F, qs, hs, r, hs', G, rr, q, kk⟩ := h
  obtain ⟨o, h1, q1, q⟩ := M.bind_ok q
  refine ⟨ah, F, H, F, ev0 Ns.length qs, hs, o, h1, ⟨⟨hs, G⟩, .refl, G, er_start rr⟩, q1, ?_⟩
  cases o with
  | nx ρ => cases M.pure_ok q; exact fun F' H' σ' I' _ => kk F' H' _ I'.ext I'.gi .non
  | rt p => cases M.pure_ok q; exact fun F' H' v x' G' r' => kk F' H' v x' G' r'
  | ex c => cases M.pure_ok q; exact fun F' H' x' G' cls d hd hm => kk F' H' cls d x' G' hd hm
  | _ => cases q
theorem knownX {x qual : Str} {st : Stmt} {f : Addr} {fd : FuncData} {Ns ps : List Str} {k n : Nat} {g : SM} (hm : mg x = some (.ref f)) (Fu : Fun K x qual st f fd) (b : L2.Binds K fd ps []) (S : FnScope Ns ps (defScope st)) (hn : ps.length = n)
    (hb : ∀ (W : EW) (cdv : Value) (A : Around) (outer : List Env) (s : Shared) (H : Hp) (E : XK), Room k (A.deeper (envOfC qual (defScope st) s.heap.objs.size f cdv)) →
      Takes (cxOf (L2.CX P w) P w K mg base Ns qual (defScope st) f cdv A outer s H E) (upW mg W) → SSs (cxOf (L2.CX P w) P w K mg base Ns qual (defScope st) f cdv A outer s H E) W (defBody st) g) :
    KnownX P w K mg base x n (k + 1) (fnX Ns.length g) := ⟨f, fd, ps, hm, Fu.kp, b, by rw [← hn]; exact ok_fnX Fu S hb⟩
end
/-! calls of such: as a statement, returned, handed to a name -/
abbrev EX := Ev → M PE'
def gBX (m : List PV → M PE') (gs : Ev → M (List PV)) : EX := fun ρ => do m (← gs ρ)
/-- an expression that may raise -/
def tSX (K : Fg) (mg : Str → Option Value) (W : EW) (g : EX) : TE := fun σ H Q => ∃ ah F N ρ hs r hs', GI K ah F H hs ∧ ER K ah F H N σ ρ ∧ g ρ hs = .ok (r, hs') ∧
  match r with
  | .inl p => ∀ F' H' v, Ext K ah F H F' H' → GI K ah F' H' hs' → Rep K ah F' H' v p → Q v H'
  | .inr c => ∀ F' H', Ext K ah F H F' H' → GI K ah F' H' hs' → W c H'
abbrev SX (X : Cx) (W : EW) (e : Expr) (g : EX) : Prop := PE X e (tSX X.K X.mg W g)
section
variable {X : Cx} {W : EW} {e : Expr} {es : List Expr} {p pos : Pos} {gs : Ev → M (List PV)} {x : Str} {n k : Nat} {m : List PV → M PE'}
theorem sx_call (h : KnownX X.prog X.w X.K X.mg X.base x n k m) (hr : Room k X.A) (tk : Takes X (upW X.mg W)) (hex : ∀ c cls, X.mg c = some cls → True) (ha : SA X (e :: es) gs) (hn : Rows gs n) (hg : Gl X x := by rfl) (hdb : (x == ("__debug__" : Str)) = false := by decide)
    (he : starEach (e :: es) X.env = (false, eval e X.env) :: starEach es X.env := by rfl) (hpl : (backTo pos (starEach es X.env)).any (·.1) = false := by rfl) : SX X W (.Call (.Name x p) (e :: es) [] pos) (gBX m gs) := by
  obtain ⟨f, fd, ps, hm, hk, hb, F⟩ := h
  refine PE.wk (pe_callS (E := WE (upW X.mg W)) F hr hg hm hk hb (fun σ => passAt tk σ) ha hdb he hpl) fun σ H Q ⟨ah, F, N, ρ, hs, r, hs', G, E, q, kk⟩ => ?_
  obtain ⟨x, h1, q1, q⟩ := M.bind_ok q
  refine ⟨ah, F, N, ρ, hs, x, h1, G, E, q1, fun F1 H1 v1 x1 G1 r1 => ?_⟩
  refine ⟨by rw [r1.length]; exact hn _ _ _ _ q1, ah, F1, x, h1, r, hs', G1, r1, q, ?_⟩
  cases r with
  | inl p => exact fun F2 H2 v x2 G2 r2 => kk F2 H2 v (x1.trans G G1 x2) G2 r2
  | inr c => exact fun F2 H2 cls d x2 G2 hd hm2 => ⟨hd, c, hm2, kk F2 H2 (x1.trans G G1 x2) G2⟩
end
end SL

end
section
/-! SLu: statements with expressions that may raise; the held error; try .. except .. as -/
namespace SL
open PySem PySem.Spec PyProof.Rows L2
variable [Tbs]
def sRetX (g : EX) : SM := fun ρ => do
  let r ← g ρ
  match r with
  | .inl p => pure (.rt p)
  | .inr c => pure (.ex c)
def sExprX (g : EX) : SM := fun ρ => do
  let r ← g ρ
  match r with
  | .inl _ => pure (.nx ρ)
  | .inr c => pure (.ex c)
def sAsgX (g : EX) (t : GM) : SM := fun ρ => do
  let r ← g ρ
  match r with
  | .inl p => do
    let ρ' ← t p ρ
    pure (.nx ρ')
  | .inr c => pure (.ex c)
section
variable {X : Cx} {W : EW} {e : Expr} {pos : Pos} {g : EX}
theorem ss_retX (he : SX X W e g) : SS X W (.Return (some e) pos) (sRetX g) := PS.wk (ps_ret he) fun D σ H ⟨ah, F0, H0, F, ρ, hs, out, hs', I, q, f⟩ => by
  obtain ⟨r, h1, q1, q⟩ := M.bind_ok q
  refine ⟨ah, F, _, ρ, hs, r, h1, I.gi, I.er, q1, ?_⟩
  cases r with
  | inl p => cases M.pure_ok q; exact fun F1 H1 v x1 G1 r1 => f F1 H1 v (I.step x1 G1).ext G1 r1
  | inr c => cases M.pure_ok q; exact fun F1 H1 x1 G1 => f F1 H1 (I.step x1 G1).ext G1
theorem ss_exprX (he : SX X W e g) (hs : swapsWith e none pos.line X.env = pure false := by rfl) : SS X W (.Expr e pos) (sExprX g) := PS.wk (ps_expr he hs) fun D σ H ⟨ah, F0, H0, F, ρ, hs, out, hs', I, q, f⟩ => by
  obtain ⟨r, h1, q1, q⟩ := M.bind_ok q
  refine ⟨ah, F, _, ρ, hs, r, h1, I.gi, I.er, q1, ?_⟩
  cases r with
  | inl p => cases M.pure_ok q; exact fun F1 H1 v x1 G1 r1 => f F1 H1 σ (I.step x1 G1) (I.gi.kp x1)
  | inr c => cases M.pure_ok q; exact fun F1 H1 x1 G1 => f F1 H1 (I.step x1 G1).ext G1
theorem ss_asgX {tg : Expr} {gt : GM} {is : List Nat} (he : SX X W e g) (hg : SG X tg gt is) (hs : swapsWithSole [tg] e pos.line X.env = pure false := by rfl) (hw : swappedStores [tg] e X.env = pure none := by rfl)
    (h1 : (assignEach [tg] X.env).map (·.2) = [assign tg X.env] := by rfl) : SS X W (.Assign [tg] e pos) (sAsgX g gt) := PS.wk (ps_asg he hg hs hw h1) fun D σ H ⟨ah, F0, H0, F, ρ, hs, out, hs', I, q, f⟩ => by
  obtain ⟨r, h1, q1, q⟩ := M.bind_ok q
  refine ⟨ah, F, _, ρ, hs, r, h1, I.gi, I.er, q1, ?_⟩
  cases r with
  | inl p =>
    obtain ⟨ρ1, h2, q2, q⟩ := M.bind_ok q
    cases M.pure_ok q
    refine fun F1 H1 v x1 G1 r1 => ?_
    have I1 := I.step x1 G1
    refine ⟨ah, F1, _, ρ, h1, p, ρ1, _, G1, I1.er, r1, q2, fun σ1 E1 _ e => ?_⟩
    subst e
    exact f F1 H1 σ1 ⟨I1.g0, I1.ext, G1, E1⟩ (I.gi.kp x1)
  | inr c => cases M.pure_ok q; exact fun F1 H1 x1 G1 => f F1 H1 (I.step x1 G1).ext G1
/-- what never raises may stand where something may -/
def gXof (g : EM) : EX := fun ρ => do return .inl (← g ρ)
theorem sx_of {g : EM} (he : SE X e g) : SX X W e (gXof g) := PE.wk he fun σ H Q ⟨ah, F, N, ρ, hs, r, hs', G, E, q, kk⟩ => by
  obtain ⟨p, h1, q1, q⟩ := M.bind_ok q
  cases M.pure_ok q
  exact ⟨ah, F, N, ρ, hs, p, _, G, E, q1, kk⟩
end
/-! isinstance(error, C), error held by the suite -/
def exE (a : Nat) : Option Nat → PV
  | none => .exc a
  | some d => .exd a d
def excAt : Option Slot → Option (Nat × Option Nat)
  | some (.fz (.exc a)) => some (a, none)
  | some (.fz (.exd a d)) => some (a, some d)
  | _ => none
theorem excAt_some {s : Option Slot} {a : Nat} {d : Option Nat} (h : excAt s = some (a, d)) : s = some (.fz (exE a d)) := by
  unfold excAt at h
  split at h
  · cases h; rfl
  · cases h; rfl
  · cases h
def gIsE (i a : Nat) (d : Option Nat) (b : Bool) : EM := fun ρ => guardM (excAt ρ[i]? = some (a, d)) (pure (.bl b))
end SL
namespace PySem.W
open PySem PySem.Spec PySem.Calls PyProof.Rows
/-! isinstance of an error that has a dict -/
section
variable {prog : Program} {w : World} {A : Around} {E : Value → Shared → Prop} {s : Shared} {K : Frag} {x D : Addr} {ox : Obj} {od : Option Obj}
theorem slFound {C : Addr} {nm : Str} {at_ gt : Value} (h1 : (clsIn K C).isSome = true) (h2 : findIn K (.ref C) nm = some (some at_)) (h3 : specialIn K at_ "__get__" = some (some gt)) (h4 : takesIn K at_ = some true) : findObj K C od nm = some (.bind gt at_) := by
  obtain ⟨cd, e⟩ := Option.isSome_iff_exists.mp h1
  simp [findObj, e, h2, h3, h4]
theorem slClass {Q : Option Value → Shared → Prop} (C : L2.ExcC K D) (X : K.In s.heap) (I : InstAt s.heap x ox D od) (h : Q (some (.ref D)) { s with toks := s.toks + 1 }) : wpAny (model prog w) A (getAttr? (.ref x) "__class__") Q E s := by
  have f0 : findObj K D od "__class__" = some (.bind (.builtin "getset_descriptor.__get__") (.builtin "object.__class__")) := slFound (by obtain ⟨cd, hc, _⟩ := any_some C.hd; rw [hc]; rfl) C.ha C.hn C.ht
  obtain ⟨hp, g, d, t, os⟩ := s; have K0 := I.type (M := model prog w); have K1 := looks_findIn (M := model prog w) X C.hg; have K2 := looks_findIn (M := model prog w) X C.hk; have K3 := looks_find (M := model prog w) X I f0
  have isB : Looks (model prog w) hp (isInstance (.ref x) (.type "BaseException")) true := K0.andThen (looks_subIn X C.hs)
  have n2 : (Value.builtin "BaseException.__getattribute__" == Value.builtin "object.__getattribute__") = false := by decide +kernel
  have n1 : (onTheHeap (Value.ref D) && Value.builtin "BaseException.__getattribute__" == Value.builtin "object.__getattribute__") = false := by rw [n2]; rfl
  unfold getAttr? getAttrBy? getAttrBy; refine wpAny_bind (wpAny_mkText (wpAny_bind (wpAny_attempt (wpAny_holding (wpAny_bind (K0.at (wpAny_bind (K1.at ?_))))))))
  show wpAny _ _ (if (onTheHeap (Value.ref D) && Value.builtin "BaseException.__getattribute__" == Value.builtin "object.__getattribute__") = true then _ else _) _ _ _; rw [n1, if_neg Bool.false_ne_true]; unfold getAttrByItsOwn hookBefore; refine wpAny_bind ?_
  rw [if_pos (show onTheHeap (Value.ref D) = true from rfl)]; refine K2.at ?_; refine wpAny_bind (wpAny_attempt (wpAny_holding ?_)); unfold callGetattribute
  rw [show (false && onTheHeap (Value.builtin "BaseException.__getattribute__")) = false from rfl, if_neg Bool.false_ne_true]; unfold boundAndCalled
  rw [PySem.F.excAttr_ValueError.ga.bind (.ref x)]; refine wpAny_bind (wpAny_pure ?_)
  show wpAny _ _ (call (.builtin "BaseException.__getattribute__") [.ref x, .str "__class__" t]) _ _ _; refine wpAny_call (codeAny_call_builtin PySem.F.excAttr_ValueError.ga.plain PySem.F.entry_bexc_ga (@check_slot (model prog w) _ _ ⟨hp, g, d, t + 1, os⟩ "BaseException.__getattribute__" "BaseException" "__getattribute__" (.ref x) [.str "__class__" t] [] _ (by decide +kernel) (by decide +kernel) isB (PySem.F.args_bexc_ga (.ref x) (.str "__class__" t)) ?_))
  unfold Builtin.«object.__getattribute__»; refine wpAny_bind (wpAny_of_eq (a := ((Value.ref x : Value), [Value.str "__class__" t])) (by first | rfl | (simp only [slotArgs]; rfl)) (wpAny_bind (wpAny_pure (wpAny_bind (K0.at (wpAny_bind (K3.at ?_)))))))
  show wpAny _ _ (holding [Value.builtin "object.__class__"] (call (.builtin "getset_descriptor.__get__") [.builtin "object.__class__", .ref x, .ref D]) >>= ret) _ _ _; refine wpAny_bind (wpAny_holding (wpAny_call (class_get (s := ⟨hp, g, d, t + 1, os⟩) (ox := ox) (od := od) X I C.hm (wpAny_pure ?_))))
  show wpAny _ _ (handedOut (.ref D)) _ _ _; rw [handedOut_of (v := .ref D) rfl]; first | exact wpAny_pure (wpAny_pure h) | exact wpAny_pure h | exact wpAny_pure (wpAny_bind (wpAny_pure (wpAny_pure h)))
theorem slKit (C : L2.ExcC K D) : KitX K (.ref x) (.ref D) (fun h => InstAt h x ox D od) := by
  have Z := handS_kitx_exc (x := x) (ox := ox) C.hg C.hk C.hs C.hd C.ha C.hn C.ht C.hm
  obtain ⟨cdD, hcD, _⟩ := any_some C.hd
  refine ⟨fun _ _ _ I => I.type, fun _ _ X _ => ?_, Z.ne, fun X I k => slClass C X I k⟩
  unfold clsIn at hcD; split at hcD
  · rename_i ho; intro A' Q' E' s' k q; unfold isType loadHead; exact wpAny_bind (wpAny_loadPart (k _ _ (X _ _ ho)) (wpAny_pure q))
  · cases hcD
end
end PySem.W
namespace SL
open PySem PySem.Spec PyProof.Rows L2
variable [Tbs]
/-- isinstance(e, c), e the exception that the suite holds -/
def rIsX (K : Fg) (D a : Addr) (d : Option Addr) : List V → Hp → VK → Prop := fun xs H Q => ∃ (c : V) (cv : Value) (b : Bool), xs = [.ref a, c] ∧ (∀ u, RelV c u → u = cv) ∧ PySem.W.kitOne K (.ref D) cv = some b ∧ XdOk d H ∧ Q (.bl b) H
theorem call_isX {X : Cx} {a D : Addr} {d : Option Addr} {oe : Obj} {pn : List (Addr × Obj)} (C : ExcC X.K D) (hz : Zc (.ref D) d oe) (hf : ∃ vs, oe.data = .fields vs) : CallR (X.suite a ((a, oe) :: pn)) (.builtin "isinstance") (rIsX X.K D a d) := by
  intro pins s σ H xs us Q I r h
  obtain ⟨c, cv, b, rfl, hcv, e, hx, q⟩ := h
  cases r with
  | cons rx rr =>
    cases rr with
    | cons rt rr =>
      cases rr; cases rx
      obtain rfl := hcv _ rt
      obtain ⟨hget, _⟩ := I.pin (a, oe) (List.mem_append.mpr (.inl List.mem_cons_self))
      obtain ⟨vs, hv⟩ := hf
      obtain ⟨od, J⟩ : ∃ od, PySem.W.InstAt s.heap a oe D od := by
        obtain ⟨oc, odi, oda, osl⟩ := oe
        obtain ⟨h1, h2⟩ := hz
        dsimp only at h1 h2 hv
        subst h1 h2 hv
        cases odi with
        | none => exact ⟨none, hget, rfl, rfl, trivial⟩
        | some dx =>
          obtain ⟨fs, hd⟩ := hx dx rfl
          obtain ⟨mA, hn, _⟩ := I.hok dx _ hd
          obtain ⟨o, es, ep, ho, _⟩ := hn
          exact ⟨some o, hget, rfl, rfl, ho⟩
      exact PySem.W.kia_one (PySem.W.slKit C) I.kIn J e (fun z => nomatch z) fun tk => ⟨.bl b, H, I.kept (t' := tk) fun _ _ z => z, rfl, q⟩
theorem se_isE {X : Cx} {a D C : Addr} {d : Option Addr} {oe : Obj} {pn : List (Addr × Obj)} {i : Nat} {x y : Str} {p p1 p2 pos : Pos} {b : Bool} (EC : ExcC X.K D) (hz : Zc (.ref D) d oe) (hf : ∃ vs, oe.data = .fields vs)
    (hN : X.N[i]? = some x) (hv : Vis X.env.scope x) (hy : X.mg y = some (.ref C)) (hk : PySem.W.kitOne X.K (.ref D) (.ref C) = some b) (hm : X.mg "isinstance" = none)
    (hg : Gl X "isinstance" := by rfl) (hgy : Gl X y := by rfl) (hdx : (x == ("__debug__" : Str)) = false := by decide) (hcx : (x == ("__classdict__" : Str)) = false := by decide) (hdy : (y == ("__debug__" : Str)) = false := by decide) :
    SE (X.suite a ((a, oe) :: pn)) (.Call (.Name "isinstance" p) [.Name x p1, .Name y p2] [] pos) (gIsE i a d b) := by
  have hc : PE (X.suite a ((a, oe) :: pn)) (.Name y p2) (tC (.ref C)) := pe_glob hgy hy rfl hdy
  have hx : PE (X.suite a ((a, oe) :: pn)) (.Name x p1) (tVar i) := pe_var hN hv hdx hcx
  refine PE.wk (pe_callB (call_isX EC hz hf) hg hm (by decide +kernel) (pa_cons hx (pa_cons hc pa_nil rfl) rfl)) fun σ H Q ⟨ah, F, N, ρ, hs, r, hs', G, E, q, kk⟩ => ?_
  obtain ⟨e, q⟩ := guard_ok q
  cases M.pure_ok q
  obtain ⟨v, ev, rv⟩ := E.get (excAt_some e)
  cases d with
  | none => cases rv; exact ⟨_, ev, .ref C, .ref C, b, rfl, fun u r => r, hk, xdNone, kk F H _ .refl G (.bl b)⟩
  | some dx =>
    cases rv with
    | exd hd => exact ⟨_, ev, .ref C, .ref C, b, rfl, fun u r => r, hk, fun dx' z => by cases z; exact ⟨_, hd⟩, kk F H _ .refl G (.bl b)⟩
end SL

end
section
/-! SLv: word(lambda: e), word a def that tries its parameter -/
namespace SL
open PySem PySem.Spec PyProof.Rows L2 LamX NdefX
variable [Tbs]
section
variable {X : Cx} {pins : List (Addr × Obj)} {σ : L2.St} {H : Hp} {s : Shared}
theorem lam_mkC {c P : Addr} {params : Arguments} {body : Expr} {scope : Scope} {pos : Pos} {E : Value → Shared → Prop} {Q : Value → Shared → Prop} (I : Inv X pins σ H s) (TB : TabB X.base X.mg c P) (hcode : X.env.code = .ref c)
    (hm : (P, X.env.qual ++ "<lambda>") ∈ Tbs.tb) (hu : ∀ p ∈ Tbs.tb, p.1 = P → p.2 = X.env.qual ++ "<lambda>") (hT : Tabs Tbs.tb H) (hdef : defaultsOf params X.env = ([], [])) (hfree : ∀ y ∈ scope.names, y.2 = .free → ∃ c, X.env.cells.lookup y.1 = some c)
    (h : ∀ (f c' : Addr) (pm ctv : Value) (H1 : Hp) (s' : Shared), Inv X pins σ H1 s' → ExtT H H1 → Tabs Tbs.tb H1 →
      s'.heap.get? f = some (PySem.W.kla_obj "<lambda>" (X.env.qual ++ "<lambda>") params body scope (cloFrom X.env.cells scope.names []) pm c' ctv) → H1 f = none → f ∉ frs X.stack → H1 c' = some (CodeO c' (X.env.qual ++ "<lambda>")) → Q (.ref f) s') :
    wpAny (model X.prog X.w) X.A (eval (.Lambda params body scope pos) X.env) Q E s := by
  obtain ⟨ps, hP, ht, ha⟩ := hT _ hm
  refine PySem.W.kla_eval hdef ?_
  have bP : s.heap.BuiltinsAt X.mg P := TB.bm.keeps I.bk
  have hP' : s.heap.get? P = some { cls := .none, data := .fields ps } := I.hok P _ hP
  have nofr : ∀ f, s.heap.objs.size ≤ f → f ∉ frs X.stack := fun f hf z => by
    rcases List.mem_cons.mp (I.stkSub _ z) with e | e
    · have h1 := I.lt
      rw [← e] at h1
      exact Nat.lt_irrefl _ (Nat.lt_of_lt_of_le h1 hf)
    · exact I.nofs hf e
  cases hc : codeAmong pos ps.toList with
  | none =>
    refine PySem.W.kla_makeFunction (mg := X.mg) (c := c) (P := P) (ps := ps) (closure_ok hfree) I.ok.glob (I.mod.glob.keeps I.bk) hcode (TB.code.keeps I.bk) hP' ht hc TB.gP bP fun c' ctv h' tk hx hge hlt hrec htb => ?_
    obtain ⟨c2, oc, vs, t, e2, hoc, hd, hv⟩ := hrec
    cases e2
    have hsz : s.heap.objs.size ≤ h'.objs.size := Nat.le_trans hge (Nat.le_of_lt hlt)
    have nC : H c' = none := I.hok.fresh hge
    have I1 := inv_table (t' := tk) (more := #[rawInt pos.line, rawInt pos.col, .ref c']) (h' := h'.push (PySem.W.kla_obj "<lambda>" (X.env.qual ++ "<lambda>") params body scope (cloFrom X.env.cells scope.names []) ((X.mg "__name__").getD .none) c' ctv)) I hP
      (fun b o hb e => Heap.get?_push_of_some _ (hx b o hb e)) (Heap.get?_push_of_some _ htb) hge ⟨oc, vs, t, Heap.get?_push_of_some _ hoc, hd, hv⟩
    have e1 : ExtT H (upd (upd H P (.tbl (ps ++ #[rawInt pos.line, rawInt pos.col, .ref c']))) c' (CodeO c' (X.env.qual ++ "<lambda>"))) := by
      refine ⟨fun b o n e => ?_, fun b qs e => ?_⟩
      · rw [upd_ne (ne_of_none e nC), upd_ne (fun z => n ps (Option.some.inj (e.symm.trans (by rw [z]; exact hP))))]
        exact e
      · rw [upd_ne (ne_of_none e nC)]
        by_cases hb : b = P
        · subst hb
          rw [hP] at e
          cases e
          exact ⟨_, upd_same⟩
        · rw [upd_ne hb]; exact tbl_same e
    have eL : (ps ++ #[rawInt pos.line, rawInt pos.col, .ref c']).toList = ps.toList ++ [rawInt pos.line, rawInt pos.col, .ref c'] := by simp
    refine h h'.objs.size c' ((X.mg "__name__").getD .none) ctv _ _ I1 e1 (fun p hp => ?_) (Heap.get?_push_size _ rfl) ?_ (nofr _ hsz) upd_same
    · by_cases hb : p.1 = P
      · rw [hu p hp hb, hb]
        refine ⟨_, by rw [upd_ne (ne_of_none hP nC), upd_same], by rw [eL]; exact PySem.TriplesOk_snoc _ _ _ _ ht, fun p' cv hcv => ?_⟩
        rw [eL] at hcv
        rcases among_app _ ht hcv with z | z
        · obtain ⟨c0, e1', e2⟩ := ha p' cv z
          exact ⟨c0, e1', e1.keep _ _ (fun _ z => codeO_ne _ z) e2⟩
        · exact ⟨c', z, upd_same⟩
      · obtain ⟨ps', a1, a2, a3⟩ := hT p hp
        refine ⟨ps', by rw [upd_ne (ne_of_none a1 nC), upd_ne hb]; exact a1, a2, fun p' cv hcv => ?_⟩
        obtain ⟨c0, e1', e2⟩ := a3 p' cv hcv
        exact ⟨c0, e1', e1.keep _ _ (fun _ z => codeO_ne _ z) e2⟩
    · have n1 : h'.objs.size ≠ c' := Nat.ne_of_gt hlt
      have n2 : h'.objs.size ≠ P := Nat.ne_of_gt (Nat.lt_of_lt_of_le (Heap.lt_size hP') hsz)
      rw [upd_ne n1, upd_ne n2]
      exact I.hok.fresh hsz
  | some cv =>
    obtain ⟨c', e, hco⟩ := ha pos cv hc
    subst e
    refine PySem.W.kla_makeFunctionHit (mg := X.mg) (c := c) (P := P) (ps := ps) (closure_ok hfree) I.ok.glob (I.mod.glob.keeps I.bk) hcode (TB.code.keeps I.bk) hP' ht hc bP fun ctv h' tk hx hsz => ?_
    have I1 : Inv X pins σ H { s with heap := h'.push (PySem.W.kla_obj "<lambda>" (X.env.qual ++ "<lambda>") params body scope (cloFrom X.env.cells scope.names []) ((X.mg "__name__").getD .none) c' ctv), toks := tk } := I.kept fun b o e => Heap.get?_push_of_some _ (hx b o e)
    exact h h'.objs.size c' ((X.mg "__name__").getD .none) ctv H _ I1 ⟨fun _ _ _ e => e, fun _ _ e => tbl_same e⟩ hT (Heap.get?_push_size _ rfl) (I.hok.fresh hsz) (nofr _ hsz) hco
end
/-- what a lambda's call gives: a value, or an error of class c let out -/
def tLX (K : Fg) (mg : Str → Option Value) (g : EX) : XK → TE := fun E σ H Q => ∃ ah F N ρ hs r hs', GI K ah F H hs ∧ ER K ah F H N σ ρ ∧ g ρ hs = .ok (r, hs') ∧
  match r with
  | .inl p => ∀ F' H' v, Ext K ah F H F' H' → GI K ah F' H' hs' → Rep K ah F' H' v p → Q v H'
  | .inr c => ∀ F' H' cls d, Ext K ah F H F' H' → GI K ah F' H' hs' → XdOk d H' → mg c = some cls → E cls d H'
theorem tLX_body {X : Cx} {A : Around} {outer : List Env} {s : Shared} {H : Hp} {E : XK} {scope : Scope} {f c' : Addr} {body : Expr} {g : EX}
    (h : ∀ W : EW, Takes (lamCx X A outer s H E scope f c') (upW X.mg W) → SX (lamCx X A outer s H E scope f c') W body g) : PE (lamCx X A outer s H E scope f c') body (tLX X.K X.mg g E) := by
  refine PE.wk (h (fun c H' => ∀ cls d, XdOk d H' → X.mg c = some cls → E cls d H') (Takes.imp (takes_of (X := lamCx X A outer s H E scope f c') (E := E) rfl rfl rfl rfl) fun c d σ H ⟨hd, c', hm, hW⟩ => hW _ _ hd hm)) fun σ H Q ⟨ah, F, N, ρ, hs, r, hs', G, E, q, kk⟩ => ?_
  refine ⟨ah, F, N, ρ, hs, r, hs', G, E, q, ?_⟩
  cases r with
  | inl p => exact kk
  | inr c => exact fun F' H' cls d x' G' hd hm => kk F' H' x' G' cls d hd hm
end SL

end
section
/-! SLw: word(lambda: e), word a def that tries its parameter -/
namespace SL
open PySem PySem.Spec PyProof.Rows L2 LamX NdefX
variable [Tbs]
section
variable {X : Cx} {pins : List (Addr × Obj)} {σ : L2.St} {H : Hp} {s : Shared}
/-- x(), in the def that got the lambda; what goes out is wished at the very slots -/
theorem act2 {CXg : CXT} {Eg : XK} {Ng : List Str} {qg : Str} {sg : Scope} {g f c' : Addr} {cdg pm ctv : Value} {params : Arguments} {body : Expr} {scope : Scope} {k i : Nat} {a : Str} {pn : List (Addr × Obj)} {xe : Value → Shared → Prop} {W : WX} {E : XK} {tb : TE} {p1 p2 : Pos}
    (I : Inv X pins σ H s) (L : LamS X.env.scope scope) (hf : s.heap.get? f = some (PySem.W.kla_obj "<lambda>" (X.env.qual ++ "<lambda>") params body scope (cloFrom X.env.cells scope.names []) pm c' ctv)) (hfn : H f = none) (hfr : f ∉ frs X.stack)
    (hbind : bindArgs (PySem.W.kla_fn "<lambda>" (X.env.qual ++ "<lambda>") params body scope (cloFrom X.env.cells scope.names []) pm (.ref c') ctv) ⟨[], []⟩ = pure [])
    (tk : Takes ((cxOf CXg X.prog X.w X.K X.mg X.base Ng qg sg g cdg X.A X.stack s H Eg).tr pn xe) W) (hr : Room (k + 1) (X.A.deeper (envOfC qg sg s.heap.objs.size g cdg)))
    (hbody : ∀ (A : Around) (outer : List Env) (s : Shared) (H : Hp), Room k (A.deeper (lamEnv X scope s.heap.objs.size f c')) → PE (lamCx X A outer s H E scope f c') body tb)
    (hN : Ng[i]? = some a) (hv : Vis sg a) (hd : (a == ("__debug__" : Str)) = false := by decide) (hcd : (a == ("__classdict__" : Str)) = false := by decide) :
    PE ((cxOf CXg X.prog X.w X.K X.mg X.base Ng qg sg g cdg X.A X.stack s H Eg).tr pn xe) (.Call (.Name a p1) [] [] p2)
      (fun σZ HZ Q => (∀ cls d H', E cls d H' → W cls d σZ H') ∧ σZ[i]? = some (some (.ref f)) ∧ HZ c' = some (CodeO c' (X.env.qual ++ "<lambda>")) ∧ tb σ HZ Q) := by
  refine ⟨fun pinsZ sZ σZ HZ Q IZ h => ?_⟩
  obtain ⟨hW, hs, hc, ht⟩ := h
  refine wpAny_Call_Name_kw (thn ((pe_var (pos := p1) (i := i) hN hv hd hcd).run pinsZ sZ σZ HZ (fun v H1 => v = .ref f ∧ H1 = HZ) IZ ⟨.ref f, hs, rfl, rfl⟩) fun u s1 ⟨v, H1, I1, r1, q1⟩ => ?_)
  obtain ⟨ev, eH⟩ := q1
  subst ev
  rw [eH] at I1
  obtain rfl : u = Value.ref f := r1
  have of1 := I1.base.keep f _ hf hfn hfr (fun z => nomatch (show f ∈ ([] : List Addr) from z))
  refine PySem.W.callWith_F0 ⟨_, _, _, _, of1⟩ ?_
  have un : Un (frs X.stack) [] H HZ s.heap s1.heap := I1.base
  obtain ⟨⟨oc, vs, t, hoc, hdc, hvc⟩, _, _⟩ := I1.hok c' _ hc
  have rc : codeAny (model X.prog X.w) (X.A.deeper (envOfC qg sg s.heap.objs.size g cdg)) (.call (.ref f) ⟨[], []⟩) (CR (L2.CX X.prog X.w) (envOfC qg sg s.heap.objs.size g cdg :: X.stack) X.prog X.w HZ s1 Q E) s1 := by
    refine PySem.W.kla_callFunE hr.depth of1 rfl L.co L.gen rfl ⟨c', oc, vs, t, rfl, hoc, hdc, hvc⟩ ?_
    rw [hbind]
    refine wpAny_pure (wpAny_newFunctionEnv (fun y hy => (L.own y hy).2) (fun y hy => absurd hy (by simp)) (fun h₁ hns hsb => ⟨I1.nolimit.fresh _ hsb, ?_⟩) L.kind)
    show codeAny _ _ (.expr body (lamEnv X scope s1.heap.objs.size f c')) _ _
    have kp : ∀ b o, s1.heap.get? b = some o → h₁.get? b = some o := fun b o e => hsb.extBut b o (Nat.ne_of_lt (Heap.lt_size e)) (Heap.get?_push_of_some _ e)
    have J := lam_start2 (E := E) (f := f) (c' := c') (tk := s1.toks + ([] : List (Str × Value)).length) I L I1.env0 hr.hd un hns kp
    refine PySem.W.kla_codeExpr (wpAny_mono ((hbody _ _ s1 HZ (hr.deeper _)).run [] _ _ HZ Q J ht) (fun v s' hq => ?_) fun e s' hq => hq)
    obtain ⟨w', H', J', rv, q⟩ := hq
    exact ⟨w', H', J'.os, J'.bare, J'.base, J'.hok, rv, q⟩
  refine wpAny_call (codeAny_mono rc fun r s' hq => ?_)
  cases r with
  | error e => exact tk e s' (XE.of_call I1 (fun cls d H' h => hW cls d H' h) hq)
  | ok fl =>
    cases fl with
    | ret u => exact I1.after hq
    | next => exact False.elim hq
    | brk => exact False.elim hq
    | cont => exact False.elim hq
end
def OutX (K : Fg) (mg : Str → Option Value) (ah : Ax) (F : Addr → Prop) (H : Hp) (hs1 : HS) (r : PE') (E : XK) (Q : VK) : Prop :=
  match r with
  | .inl p => ∀ F' H' v, Ext K ah F H F' H' → GI K ah F' H' hs1 → Rep K ah F' H' v p → Q v H'
  | .inr c => ∀ F' H' cls d, Ext K ah F H F' H' → GI K ah F' H' hs1 → XdOk d H' → mg c = some cls → E cls d H'
def TTw (K : Fg) (mg : Str → Option Value) (wm : PE' → M PV) (tl : XK → Hp → VK → Prop) (H : Hp) (Q : VK) : Prop :=
  ∃ ah F hs r hs1 p hs', GI K ah F H hs ∧ (∀ (E : XK) (Q' : VK), OutX K mg ah F H hs1 r E Q' → tl E H Q') ∧ wm r hs1 = .ok (p, hs') ∧ ∀ F' H' v, Ext K ah F H F' H' → GI K ah F' H' hs' → Rep K ah F' H' v p → Q v H'
abbrev zCx (P : Program) (w : World) (K : Fg) (mg : Str → Option Value) (base : Heap) (Ng : List Str) (x : Str) (sg : Scope) (g : Addr) (cdg : Value) (A : Around) (outer : List Env) (s : Shared) (H : Hp) : Cx := cxOf C8.CX0 P w K mg base Ng x sg g cdg A outer s H C8.E0
def GivesW (P : Program) (w : World) (K : Fg) (mg : Str → Option Value) (base : Heap) (Ng : List Str) (x : Str) (sg : Scope) (g : Addr) (cdg : Value) (bg : List Stmt) (a : Str) (k : Nat) (wm : PE' → M PV) : Prop :=
  ∀ (A : Around) (outer : List Env) (f c' : Addr) (q : Str) (s : Shared) (H : Hp) (Q : VK) (tl : XK → Hp → VK → Prop), Room k (A.deeper (envOfC x sg s.heap.objs.size g cdg)) →
    (∀ (W : WX) (pn : List (Addr × Obj)) (xe : Value → Shared → Prop) (E : XK) (p1 p2 : Pos), Takes ((zCx P w K mg base Ng x sg g cdg A outer s H).tr pn xe) W →
      PE ((zCx P w K mg base Ng x sg g cdg A outer s H).tr pn xe) (.Call (.Name a p1) [] [] p2) (fun σZ HZ Q => (∀ cls d H', E cls d H' → W cls d σZ H') ∧ σZ[0]? = some (some (.ref f)) ∧ HZ c' = some (CodeO c' q) ∧ tl E HZ Q)) →
    H c' = some (CodeO c' q) → TTw K mg wm tl H Q →
    ∃ t, PSs (zCx P w K mg base Ng x sg g cdg A outer s H).nox bg t ∧ t { nx := fun _ H' => Q .non H', rt := Q } (L2.start Ng [.ref f]) H
/-- a def that tries what it is handed: its mirror wm, of what the call gives -/
def WordK (P : Program) (w : World) (K : Fg) (mg : Str → Option Value) (base : Heap) (x : Str) (k : Nat) (wm : PE' → M PV) : Prop :=
  ∃ (g : Addr) (a : Str) (Ng : List Str) (pg : Arguments) (bg : List Stmt) (sg : Scope) (dV kV doc pm cdv ct oc : Value) (an od : Option Addr) (osl : Array (Option Value)), mg x = some (.ref g) ∧ PySem.W.keepIn K (.ref g) = true ∧
    K.lookup g = some ⟨oc, od, .func (PySem.W.fnOf x x pg bg sg dV kV doc pm an cdv ct), osl⟩ ∧ PySem.W.codeIn K cdv x = true ∧ L2.Binds K (PySem.W.fnOf x x pg bg sg dV kV doc pm an cdv ct) [a] [] ∧ FnScope Ng [a] sg ∧ Ng[0]? = some a ∧ Vis sg a ∧
    (a == ("__debug__" : Str)) = false ∧ (a == ("__classdict__" : Str)) = false ∧ GivesW P w K mg base Ng x sg g cdv bg a k wm
def gWord (wm : PE' → M PV) (g : EX) : EM := fun ρ => do wm (← g ρ)
theorem se_word {X : Cx} {x : Str} {k : Nat} {wm : PE' → M PV} {c P : Addr} {params : Arguments} {body : Expr} {scope : Scope} {g : EX} {p lpos pos : Pos} (hW : WordK X.prog X.w X.K X.mg X.base x (k + 1) wm)
    (TB : TabB X.base X.mg c P) (hcode : X.env.code = .ref c) (hmT : (P, X.env.qual ++ "<lambda>") ∈ Tbs.tb) (hu : ∀ p ∈ Tbs.tb, p.1 = P → p.2 = X.env.qual ++ "<lambda>") (hr : Room (k + 2) X.A) (L : LamS X.env.scope scope) (hdef : defaultsOf params X.env = ([], []))
    (hbind : ∀ (q : Str) (cl : List (Str × Addr)) (pm cv ctv : Value), bindArgs (PySem.W.kla_fn "<lambda>" q params body scope cl pm cv ctv) ⟨[], []⟩ = pure [])
    (hbody : ∀ (A : Around) (outer : List Env) (s : Shared) (H : Hp) (E : XK) (f c' : Addr) (W : EW), Room k (A.deeper (lamEnv X scope s.heap.objs.size f c')) → Takes (lamCx X A outer s H E scope f c') (upW X.mg W) → SX (lamCx X A outer s H E scope f c') W body g)
    (hg : Gl X x := by rfl) (hdb : (x == ("__debug__" : Str)) = false := by decide) :
    SE X (.Call (.Name x p) [.Lambda params body scope lpos] [] pos) (gWord wm g) := by
  obtain ⟨ga, a, Ng, pg, bg, sg, dV, kV, doc, pm, cdv, ct, oc, an, od, osl, hm, hk, lk, hcg, hb, Sg, hNg, hva, hd, hcd, hG⟩ := hW
  refine ⟨fun pins s σ H Q I h => ?_⟩
  obtain ⟨ah, F, N, ρ, hs, p, hs', G, E, q, kk⟩ := h
  obtain ⟨r, h1, q1, q2⟩ := M.bind_ok q
  refine wpAny_Call_Name_kw (ld_glob I hg hm ?_ hdb)
  refine PySem.W.callWith_K (h₀ := X.base) I.ok.mod.kin hk ?_ (by rfl) (by rfl)
  show wpAny _ _ (spliced ((false, eval (.Lambda params body scope lpos) X.env) :: backTo pos (starEach [] X.env))) _ _ s
  refine Calls.spliced_cons (lam_mkC I TB hcode hmT hu G.tabs hdef (L.has I.ok) fun f c' pm' ctv H1 s' I1 e1 T1 hf hfn hfr hco => ?_)
  refine Calls.spliced_nil ⟨I1.kIn, ?_⟩
  have G1 := e1.gi G T1
  have rc : codeAny (model X.prog X.w) X.A (.call (.ref ga) ⟨[.ref f], []⟩) (CR C8.CX0 X.stack X.prog X.w H1 s' Q C8.E0) s' := by
    refine run_ofS (N := Ng) (ps := [a]) (us := [.ref f]) (vs := [.ref f]) lk hcg Sg hr.rm I1.env0 (hb s' [.ref f] I1.kIn rfl) (.cons rfl .nil) rfl fun _ => ?_
    have hr' := hr.deeper (envOfC x sg s'.heap.objs.size ga cdv)
    obtain ⟨t', ht', hq'⟩ := hG X.A X.stack f c' _ s' H1 Q (fun E H' Q' => tLX X.K X.mg g E σ H' Q') hr' (fun W pn xe E p1 p2 tk => act2 (i := 0) I1 L hf hfn hfr (hbind _ _ _ _ _) tk hr' (fun A outer s H hr2 => tLX_body fun W tk => hbody A outer s H E f c' W hr2 tk) hNg hva hd hcd) hco
      ⟨ah, F, hs, r, h1, p, hs', G1, fun E' Q' hh => ⟨ah, F, N, ρ, hs, r, h1, G1, E.ext G e1.ext, q1, by cases r <;> exact hh⟩, q2, fun F' H' v x' G' r' => kk F' H' v (e1.ext.trans G G1 x') G' r'⟩
    exact ⟨t', ht'.nox, hq'⟩
  refine wpAny_call (codeAny_mono rc fun r s2 hq => ?_)
  cases r with
  | error e => exact (show False from hq).elim
  | ok fl =>
    cases fl with
    | ret u => exact I1.after hq
    | next => exact False.elim hq
    | brk => exact False.elim hq
    | cont => exact False.elim hq
end SL

end
section
/-! SLx: a def that tries its parameter: try: a() / except E as n: suite / rest -/
namespace SL
open PySem PySem.Spec PyProof.Rows L2 LamX NdefX
variable [Tbs]
section
variable {P : Program} {w : World} {K : Fg} {mg : Str → Option Value} {base : Heap} {Ng : List Str} {x a e n : Str} {sg : Scope} {g CS : Addr} {cdg : Value} {k ie : Nat} {wm : PE' → M PV} {b₀ : Stmt} {suite rest : List Stmt} {p1 p2 p3 p4 p7 p8 : Pos} {cs : List Str} {gs : Nat → Option Nat → Str → SM} {gr : SM}
theorem word_gives (hN : Ng.Nodup) (hi : Ng[ie]? = some n) (hln : sg.names.lookup n = some .local) (hie : ie ≠ 0)
    (hge : sg.names.lookup e = some .globalImplicit) (hme : mg e = some (.ref CS)) (hde : (e == ("__debug__" : Str)) = false)
    (hsw : ∀ A outer s H, swapsWith (.Call (.Name a p1) [] [] p2) none p3.line (zCx P w K mg base Ng x sg g cdg A outer s H).env = pure false)
    (hcls : ∀ c ∈ cs, ∀ cls, mg c = some cls → PySem.W.exmOne K cls (.ref CS) = some true)
    (hsu : ∀ A outer s H, Room k (A.deeper (envOfC x sg s.heap.objs.size g cdg)) → ∀ c ∈ cs, ∀ (cls : Value) (a : Addr) (d : Option Addr) (oe : Obj) (pn : List (Addr × Obj)), mg c = some cls → Zc cls d oe → (∃ vs, oe.data = .fields vs) →
      SSs ((zCx P w K mg base Ng x sg g cdg A outer s H).nox.suite a ((a, oe) :: pn)) noW (b₀ :: suite) (gs a d c))
    (hrest : ∀ A outer s H, Room k (A.deeper (envOfC x sg s.heap.objs.size g cdg)) → SSs (zCx P w K mg base Ng x sg g cdg A outer s H).nox noW rest gr)
    (hw0 : ∀ v hs p hs', wm (.inl v) hs = .ok (p, hs') → ∀ f : Nat, gr (ev0 Ng.length [.exc f]) hs = .ok (.rt p, hs'))
    (hw1 : ∀ c hs p hs', wm (.inr c) hs = .ok (p, hs') → c ∈ cs ∧ ∀ (f a : Nat) (d : Option Nat), gs a d c ((ev0 Ng.length [.exc f]).set ie (.fz (exE a d))) hs = .ok (.rt p, hs')) :
    GivesW P w K mg base Ng x sg g cdg (.Try [.Expr (.Call (.Name a p1) [] [] p2) p3] [.ExceptHandler (some (.Name e p4)) (some n) (b₀ :: suite) p7] [] [] p8 :: rest) a k wm := by
  intro A outer f c' q s H Q tl hr act hc htt
  obtain ⟨ah, F, hs, r, hs1, p, hs', G, hout, hq, kk⟩ := htt
  have er0 : ER K ah F H (fun b => H b = none) (L2.start Ng [V.ref f]) (ev0 Ng.length [.exc f]) := er_start (.cons .exc .nil)
  refine ⟨_, pss_cons (ps_try_as (X := (zCx P w K mg base Ng x sg g cdg A outer s H).nox) (c := .ref CS) (i := ie) (Wout := fun _ _ _ _ => False)
      (tb := fun W D σ H => σ = L2.start Ng [.ref f] ∧ H c' = some (CodeO c' q) ∧ tl (fun cls d H' => W cls d (L2.start Ng [.ref f]) H') H (fun v H' => D.nx (L2.start Ng [.ref f]) H'))
      (ts := fun a cls d => fun D σ H => ∃ c ∈ cs, mg c = some cls ∧ tSS K noW (gs a d c) D σ H)
      rfl rfl hN hi hln ⟨hge, hde, .inl hme⟩ L2.takes0 (fun W pn xe tk _ => ?_) (fun a oe cls d pn hz hf => ?_)) (hrest A outer s H hr), ?_⟩
  · refine pss_one (PS.wk (ps_expr (act W pn xe (fun cls d H' => W cls d (L2.start Ng [.ref f]) H') p1 p2 tk) (hsw A outer s H)) fun D σ H2 ⟨e1, e2, e3⟩ => ?_)
    subst e1
    refine ⟨fun _ _ _ h => h, ?_, e2, e3⟩
    have := (List.getElem?_eq_some_iff.mp hi).1
    cases Ng with
    | nil => simp at this
    | cons y ys => rfl
  · refine ⟨fun pins s' σ H' D I ⟨c, hc, hm, ht⟩ => ?_⟩
    exact (hsu A outer s H hr c hc cls a d oe pn hm hz hf).run pins s' σ H' D I ht
  · refine ⟨rfl, ?c, hout _ _ ?o⟩
    case c => assumption
    case o =>
      cases r with
      | inl v =>
        have q1 := hw0 v _ _ _ hq f
        intro F' H' u x' G' r'
        refine ⟨ah, F', H', F', _, hs1, _, hs', ⟨⟨hs1, G'⟩, .refl, G', ?_⟩, q1, fun F2 H2 v2 x2 G2 r2 => kk F2 H2 v2 (x'.trans G G' x2) G2 r2⟩
        exact er_start (.cons .exc .nil)
      | inr c =>
        obtain ⟨hc, q1⟩ := hw1 c _ _ _ hq
        intro F' H' cls d x' G' hd hm
        refine ⟨true, hcls c hc cls hm, fun _ a' na => ⟨c, hc, hm, ah, F', H', F', _, hs1, _, hs', ⟨⟨hs1, G'⟩, .refl, G', ?_⟩, q1 f a' d, fun F2 H2 v2 x2 G2 r2 => kk F2 H2 v2 (x'.trans G G' x2) G2 r2⟩, fun z => by cases z⟩
        refine (er_start (.cons .exc .nil)).setF ?_
        cases d with
        | none => exact .exc
        | some dx => obtain ⟨fs, e⟩ := hd dx rfl; exact .exd e
end
end SL

end
section
/-! SLy: {k: v}; the name of a def as a value, called -/
namespace SL
open PySem PySem.Spec PyProof.Rows L2 LamX NdefX
variable [Tbs]
/-- {k: v}, k an int or a text -/
def gDisp1 (gk gv : EM) : EM := fun ρ => do
  let k ← gk ρ
  let v ← gv ρ
  let k' ← liftO (keyP k)
  pure (.dK [(k', v)])
section
variable {X : Cx} {a b : Expr} {pos : Pos} {ga gb : EM}
theorem sf_disp1 (ha : SB X a ga) (hb : SE X b gb) : SF X (.Dict [some a] [b] pos) (gDisp1 ga gb) := PE.wk (pe_disp (pps_cons ha hb pps_nil) rfl rfl (by simp) (by simp)) fun σ H Q ⟨ah, F, N, ρ, hs, p, hs', G, E, q, k⟩ => by
  obtain ⟨kp, h1, q1, q⟩ := M.bind_ok q
  obtain ⟨vp, h2, q2, q⟩ := M.bind_ok q
  obtain ⟨kk, h3, q3, q⟩ := M.bind_ok q
  cases M.pure_ok q
  obtain ⟨ek, eh⟩ : keyP kp = some kk ∧ hs' = h2 := by
    cases e : keyP kp with
    | none => rw [e] at q3; cases q3
    | some k0 => rw [e] at q3; cases M.pure_ok q3; exact ⟨rfl, rfl⟩
  subst eh
  intro D hn
  have x0 : Ext X.K ah F H F (upd H D (.dK [])) := .laid hn
  have G0 := G.laid (o := .dK []) hn
  have nD : ah.hd ≠ some D := G.ne hn
  have nF0 : ¬ F D := G.nf hn
  refine ⟨ah, F, N, ρ, hs, kp, h1, G0, E.ext G x0, q1, fun F1 H1 v1 x1 G1 r1 => ⟨ah, F1, N, ρ, h1, vp, _, G1, (E.ext G x0).ext G0 x1, q2, fun F2 H2 v2 x2 G2 r2 => ?_⟩⟩
  have d1 : H1 D = some (.dK []) := x1.keep _ _ nD (fun _ z => by cases z) upd_same
  have d2 : H2 D = some (.dK []) := x2.keep _ _ nD (fun _ z => by cases z) d1
  have nF1 : ¬ F1 D := fun z => (x1.new _ z).elim nF0 fun z => by rw [upd_same] at z; cases z
  have nF2 : ¬ F2 D := fun z => (x2.new _ z).elim nF1 fun z => by rw [d1] at z; cases z
  have xx := (x0.trans G G0 x1).trans G G1 x2
  refine ⟨d2, [(kk, v2)], by rw [keyP_con (r1.con ((E.ext G x0).ext G0 x1)) ek]; rfl, by simp, ?_⟩
  refine k F2 _ D ⟨xx.mono, xx.new, fun a u n t h => ?_, fun a ps h => ?_⟩ (G2.ownO d2 trivial nF2 nD) hn nF2 (.dK (kvs := [(kk, v2)]) upd_same ?_ rfl (.cons (r2.mono (.ownO d2 trivial nF2)) .nil))
  · rw [upd_ne (ne_of_none h hn)]; exact xx.keep a u n t h
  · rw [upd_ne (ne_of_none h hn)]; exact xx.tbl a ps h
  · show 1 ≤ sizeLine; rw [sizeLine_eq]; omega
end
end SL

end
section
/-! SLz: the name of a def as a value, called; xs.index, xs.count; xs * n; is True -/
namespace L2
open PySem PySem.Spec PyProof.Rows
section
variable {X : Cx}
def rCntF (K : PySem.W.Frag) : V → List V → Hp → VK → Prop := fun x xs H Q => ∃ (a : Addr) (ys : List V) (y : V), x = V.ref a ∧ xs = [y] ∧ SqL K H a ys ∧ flatV y = true ∧ ys.all flatV = true ∧ Q (.int ((ys.countP fun z => eqV z y : Nat) : Int)) H
theorem countU {y : V} {uy : Value} (ry : RelV y uy) : ∀ {ys : List V} {us : List Value}, Vals ys us → ys.all flatV = true → us.countP (eqU y) = ys.countP fun z => eqV z y
  | _, _, .nil, _ => rfl
  | _, _, .cons r t, f => by
    rw [List.all_cons, Bool.and_eq_true] at f
    rw [List.countP_cons, List.countP_cons, countU ry t f.2, eqU_of r f.1]
theorem mt_countF : MtR X "list.count" (rCntF X.K) := by
  intro pins s σ H x xs v us Q I rx rxs h
  obtain ⟨a, ys, y, rfl, rfl, hs, fy, fys, q⟩ := h
  cases rx
  cases rxs with
  | cons ry rt =>
    rename_i uy ut
    cases rt
    obtain ⟨its, rv, ⟨⟨cls, dd, data, sl⟩, n, ho, hc, hdn, hd⟩, hlen⟩ := I.list hs
    simp only at hc hd
    subst hc hd
    refine call_meets PySem.F.slot_list_count ⟨_, ho, rfl⟩ PySem.F.entry_list_count (PySem.F.args_list_count_2 _ _)
      (SeqAt.list_countAt a its.toArray n dd sl uy (eqU y)) ⟨ho, fun u' hu' => mem_eqAt ry fy rv fys u' (by simpa using hu'), ?_⟩
    have ec : its.toArray.toList.countP (eqU y) = ys.countP fun z => eqV z y := countU ry rv fys
    refine ⟨.int (ys.countP fun z => eqV z y : Nat), H, I.tok _, ⟨s.toks, ?_⟩, q⟩
    show Value.int ((its.toArray.toList.countP (eqU y) : Nat) : Int) s.toks = Value.int ((ys.countP fun z => eqV z y : Nat) : Int) s.toks
    rw [ec]
end
end L2
namespace SL
open PySem PySem.Spec PyProof.Rows L2 LamX NdefX
variable [Tbs]
/-! ### methods of read things -/
def MTy (K : Fg) (T : String) (ok : PV → Bool) : Prop := ∀ (ah : Ax) (F : Addr → Prop) (H : Hp) (hs : HS) (v : V) (p : PV), GI K ah F H hs → Con K ah F H v p → ok p = true → tyV K T v H
def MethS (X : Cx) (r : V → List V → Hp → VK → Prop) (fp : PV → List PV → M PV) : Prop := ∀ (ah : Ax) (F : Addr → Prop) (H : Hp) (hs hs' : HS) (x : V) (xs : List V) (p : PV) (ps : List PV) (z : PV) (Q : VK), GI X.K ah F H hs → Con X.K ah F H x p → Cons X.K ah F H xs ps → fp p ps hs = .ok (z, hs') →
  (∀ F' H' v, Ext X.K ah F H F' H' → GI X.K ah F' H' hs' → Rep X.K ah F' H' v z → Q v H') → r x xs H Q
def gMeth (ok : PV → Bool) (fp : PV → List PV → M PV) (g : EM) (gs : Ev → M (List PV)) : EM := fun ρ => do
  let x ← g ρ
  guardM (ok x = true) (do
    let xs ← gs ρ
    fp x xs)
theorem meth_w {K : Fg} {X : Cx} {T : String} {ok : PV → Bool} {r : V → List V → Hp → VK → Prop} {fp : PV → List PV → M PV} {g : EM} {gs : Ev → M (List PV)} (ht : MTy X.K T ok) (hm : MethS X r fp) (σ : L2.St) (H : Hp) (Q : VK) (h : tS X.K (gMeth ok fp g gs) σ H Q) : tBM X.K T r (tSB X.K g) (tSAB X.K gs) σ H Q := by
  obtain ⟨ah, F, N, ρ, hs, p, hs', G, E, q, k⟩ := h
  obtain ⟨x, h1, q1, q⟩ := M.bind_ok q
  obtain ⟨ho, q⟩ := guard_ok q
  obtain ⟨xs, h2, q2, q⟩ := M.bind_ok q
  refine ⟨ah, F, N, ρ, hs, x, h1, G, E, q1, fun F1 H1 v1 x1 G1 r1 => ?_⟩
  have E1 := E.ext G x1
  refine ⟨ht ah F1 H1 h1 v1 x G1 (r1.con E1) ho, ah, F1, N, ρ, h1, xs, h2, G1, E1, q2, fun F2 H2 v2 x2 G2 r2 => ?_⟩
  have E2 := E1.ext G1 x2
  have x12 := x1.trans G G1 x2
  exact hm ah F2 H2 h2 hs' v1 v2 x xs p Q G2 ((r1.ext G1 x2).con E2) (r2.cons' E2) q fun F3 H3 v x3 G3 r3 => k F3 H3 v (x12.trans G G2 x3) G3 r3
def isLst : PV → Bool
  | .lst _ => true
  | _ => false
theorem mty_lst {K : Fg} : MTy K "list" isLst := fun ah F H hs v p G c h => by
  cases p <;> first | (cases h; done) | skip
  obtain ⟨a, vs, rfl, h, _, _⟩ := c.lst
  exact tyV_lst h
def findIx (f : PV → Bool) : List PV → Option Nat
  | [] => none
  | p :: ps => if f p = true then some 0 else (findIx f ps).map (· + 1)
theorem findIx_some {f : PV → Bool} : ∀ {ps : List PV} {j : Nat}, findIx f ps = some j → ∃ p, ps[j]? = some p ∧ f p = true ∧ ∀ m p', m < j → ps[m]? = some p' → f p' = false
  | [], j, h => by cases h
  | p :: ps, j, h => by
    unfold findIx at h
    by_cases e : f p = true
    · rw [if_pos e] at h
      cases h
      exact ⟨p, rfl, e, fun m p' hm => absurd hm (Nat.not_lt_zero _)⟩
    · rw [if_neg e] at h
      cases e2 : findIx f ps with
      | none => rw [e2] at h; cases h
      | some i =>
        rw [e2] at h; cases h
        obtain ⟨q, h1, h2, h3⟩ := findIx_some e2
        refine ⟨q, by simpa using h1, h2, fun m p' hm hp => ?_⟩
        cases m with
        | zero => simp at hp; subst hp; exact Bool.eq_false_iff.mpr e
        | succ m => exact h3 m p' (Nat.lt_of_succ_lt_succ hm) (by simpa using hp)
def pIdx : PV → List PV → M PV
  | .lst l, [y] => guardM (flatP y = true ∧ l.all flatP = true) (do
    let j ← liftO (findIx (fun z => eqP z y) l)
    pure (.int (j : Nat)))
  | _, _ => stuck
def pCnt : PV → List PV → M PV
  | .lst l, [y] => guardM (flatP y = true ∧ l.all flatP = true) (pure (.int ((l.countP fun z => eqP z y : Nat) : Int)))
  | _, _ => stuck
theorem cnt_reps {K : Fg} {ah : Ax} {F : Addr → Prop} {H : Hp} {w : V} {q : PV} (r' : Rep K ah F H w q) (f' : flatP q = true) : ∀ {vs : List V} {ps : List PV}, Reps K ah F H vs ps → ps.all flatP = true → (vs.countP fun z => eqV z w) = ps.countP fun z => eqP z q
  | _, _, .nil, _ => rfl
  | _, _, .cons r t, f => by
    rw [List.all_cons, Bool.and_eq_true] at f
    rw [List.countP_cons, List.countP_cons, cnt_reps r' f' t f.2, (flat_rep r f.1 r' f').2]
section
variable {X : Cx}
theorem ms_idx : MethS X (rIndex X.K) pIdx := fun ah F H hs hs' x xs p ps z Q G c cs e k => by
  unfold pIdx at e
  split at e
  · obtain ⟨⟨f1, f2⟩, e⟩ := guard_ok e
    obtain ⟨j, h1, q1, e⟩ := M.bind_ok e
    obtain ⟨e1, e2⟩ := M.lift_ok q1
    cases M.pure_ok e
    cases cs with | cons d t => ?_
    cases t
    obtain ⟨a, vs, rfl, h, _, r⟩ := c.lst
    have rd := flat_con d f1
    obtain ⟨p0, g1, g2, g3⟩ := findIx_some e1
    obtain ⟨v0, g4, r0⟩ := r.get g1
    have hall := fun (p : PV) (hp : p ∈ _) => List.all_eq_true.mp f2 p hp
    obtain ⟨hfa, _⟩ := flat_all rd f1 r f2
    cases e2
    refine ⟨a, vs, _, j, v0, rfl, rfl, .of h, flat_one rd f1, hfa, g4, ?_, fun m z' hm hz => ?_, k F H _ .refl G (.int _)⟩
    · rw [(flat_rep r0 (hall _ (List.mem_of_getElem? g1)) rd f1).2]; exact g2
    · obtain ⟨p', e3, r3⟩ := r.getV hz
      rw [(flat_rep r3 (hall _ (List.mem_of_getElem? e3)) rd f1).2]; exact g3 m p' hm e3
  · cases e
theorem ms_cnt : MethS X (rCntF X.K) pCnt := fun ah F H hs hs' x xs p ps z Q G c cs e k => by
  unfold pCnt at e
  split at e
  · obtain ⟨⟨f1, f2⟩, e⟩ := guard_ok e
    cases M.pure_ok e
    cases cs with | cons d t => ?_
    cases t
    obtain ⟨a, vs, rfl, h, _, r⟩ := c.lst
    have rd := flat_con d f1
    obtain ⟨hfa, _⟩ := flat_all rd f1 r f2
    refine ⟨a, vs, _, rfl, rfl, .of h, flat_one rd f1, hfa, ?_⟩
    rw [cnt_reps rd f1 r f2]
    exact k F H _ .refl G (.int _)
  · cases e
variable {e o : Expr} {es : List Expr} {p apos cpos : Pos} {g : EM} {gs : Ev → M (List PV)}
/-- o.index(e), o.count(e), o a list -/
theorem se_idx (ho : SB X o g) (ha : SAB X (e :: es) gs) (hbase : attributeBase o "index" X.env (eval o X.env) = eval o X.env := by rfl)
    (hfew : ((backTo cpos (starEach (e :: es) X.env)).all (fun x => !x.1) && (backToKw cpos (keywordEach [] X.env)).all (fun x => x.1.isSome)
      && decide ((e :: es).length + ([] : List Keyword).length + (if ([] : List Keyword).isEmpty then 0 else 1) < 30)) = true := by rfl)
    (hline : (apos.endLine == cpos.line) = true := by rfl) (hs : starEach (e :: es) X.env = (false, eval e X.env) :: starEach es X.env := by rfl) (hplain : (backTo cpos (starEach es X.env)).any (·.1) = false := by rfl) :
    SE X (.Call (.Attribute o "index" apos) (e :: es) [] cpos) (gMeth isLst pIdx g gs) :=
  PE.wk (pe_bm PySem.F.plainAttrs_list PySem.F.slot_list_index PySem.F.type_list_index mt_index ho ha hbase hfew hline hs hplain) (meth_w (K := X.K) mty_lst ms_idx)
theorem se_cnt (ho : SB X o g) (ha : SAB X (e :: es) gs) (hbase : attributeBase o "count" X.env (eval o X.env) = eval o X.env := by rfl)
    (hfew : ((backTo cpos (starEach (e :: es) X.env)).all (fun x => !x.1) && (backToKw cpos (keywordEach [] X.env)).all (fun x => x.1.isSome)
      && decide ((e :: es).length + ([] : List Keyword).length + (if ([] : List Keyword).isEmpty then 0 else 1) < 30)) = true := by rfl)
    (hline : (apos.endLine == cpos.line) = true := by rfl) (hs : starEach (e :: es) X.env = (false, eval e X.env) :: starEach es X.env := by rfl) (hplain : (backTo cpos (starEach es X.env)).any (·.1) = false := by rfl) :
    SE X (.Call (.Attribute o "count" apos) (e :: es) [] cpos) (gMeth isLst pCnt g gs) :=
  PE.wk (pe_bm PySem.F.plainAttrs_list PySem.F.slot_list_count PySem.F.type_list_count mt_countF ho ha hbase hfew hline hs hplain) (meth_w (K := X.K) mty_lst ms_cnt)
end
/-! ### xs * n -/
def repL (k : Int) (l : List PV) : List PV := (List.replicate k.toNat l).flatten
theorem reps_rep {K : Fg} {ah : Ax} {F : Addr → Prop} {H : Hp} {vs : List V} {ps : List PV} (r : Reps K ah F H vs ps) : ∀ n : Nat, Reps K ah F H (List.replicate n vs).flatten (List.replicate n ps).flatten
  | 0 => .nil
  | n + 1 => by
    rw [List.replicate_succ, List.replicate_succ, List.flatten_cons, List.flatten_cons]
    exact r.append (reps_rep r n)
def pRepL : PV → PV → M PV
  | .lst l, .int k => guardM (0 ≤ k ∧ k ≤ 1000 ∧ l.length * k.toNat ≤ SZ) (pure (.lst (repL k l)))
  | _, _ => stuck
def pRepT : PV → PV → M PV
  | .tup l, .int k => guardM (l.isEmpty = false ∧ 2 ≤ k ∧ k ≤ 1000 ∧ l.length ≤ 1000) (pure (.tup (repL k l)))
  | _, _ => stuck
section
variable {X : Cx}
theorem len_flat {α : Type} (l : List α) : ∀ n : Nat, (List.replicate n l).flatten.length = l.length * n
  | 0 => rfl
  | n + 1 => by rw [List.replicate_succ, List.flatten_cons, List.length_append, len_flat l n, Nat.mul_succ, Nat.add_comm]
theorem opf_repL : OpF X rRep pRepL := fun ah F H hs hs' x y p q z Q G c d e k => by
  unfold pRepL at e
  split at e
  · rename_i l i
    obtain ⟨⟨g1, g2, g3⟩, e⟩ := guard_ok e
    cases M.pure_ok e
    obtain ⟨a, vs, rfl, h, _, r⟩ := c.lst
    have hz : vs.length * i.toNat ≤ sizeLine := by rw [r.length, szE]; exact g3
    refine ⟨a, i, vs, rfl, d.int, h, by omega, by omega, hz, fun b n => ?_⟩
    exact new_lst G n (by rw [len_flat]; exact hz) (reps_rep r _) k
  · cases e
theorem ops_repT : OpS X (rRepT X.K) pRepT := fun ah F H hs hs' x y p q z Q G c d e k => by
  unfold pRepT at e
  split at e
  · rename_i l i
    obtain ⟨⟨g0, g1, g2, g3⟩, e⟩ := guard_ok e
    cases M.pure_ok e
    obtain ⟨a, vs, rfl, h, _, r⟩ := c.tup
    have hl := r.length
    have hk : i.toNat ≤ 1000 := by omega
    have hm : vs.length * i.toNat ≤ 1000 * 1000 := Nat.mul_le_mul (by omega) hk
    refine ⟨a, _, vs, rfl, d.int, .of h, fun z => ?_, g1, g2, by omega, fun b n => ?_⟩
    · subst z; cases r; cases g0
    · exact new_tup G n (by rw [len_flat, szE]; show _ ≤ 16777216; omega) (reps_rep r _) k
  · cases e
/-- is True, is False -/
def pIsB (neg : Bool) : PV → PV → M PV
  | .bl a, .bl b => pure (.bl (neg ^^ (a == b)))
  | _, _ => stuck
theorem ops_isB : OpS X rIsB (pIsB false) := fun ah F H hs hs' x y p q z Q G c d e k => by
  unfold pIsB at e
  split at e
  · cases M.pure_ok e
    refine ⟨_, _, c.bl, d.bl, ?_⟩
    have := k F H _ .refl G (.bl _)
    rename_i a b
    cases a <;> cases b <;> exact this
  · cases e
theorem ops_isnB : OpS X rNotB (pIsB true) := fun ah F H hs hs' x y p q z Q G c d e k => by
  unfold pIsB at e
  split at e
  · cases M.pure_ok e
    refine ⟨_, _, c.bl, d.bl, ?_⟩
    have := k F H _ .refl G (.bl _)
    rename_i a b
    cases a <;> cases b <;> exact this
  · cases e
end
/-! ### the name of a def as a value; called -/
section
variable {X : Cx} {W : EW} {x : Str} {p pos : Pos} {i j k n : Nat} {e : Expr} {es : List Expr} {gs : Ev → M (List PV)}
theorem se_fn (hm : X.mg x = some (.ref (Tbs.fa i))) (hg : Gl X x := by rfl) (hd : (x == ("__debug__" : Str)) = false := by decide) : SE X (.Name x pos) (gC (.fn i)) := se_c (v := .ref (Tbs.fa i)) (pe_glob hg hm rfl hd) fun _ _ _ => .fn
/-- the i-th def, which may raise -/
def FnX (P : Program) (w : World) (K : Fg) (mg : Str → Option Value) (base : Heap) (k i n : Nat) (m : List PV → M PE') : Prop := ∃ x, mg x = some (.ref (Tbs.fa i)) ∧ KnownX P w K mg base x n k m
def fnNo : PV → Option Nat
  | .fn i => some i
  | _ => none
theorem fnNo_some {p : PV} {i : Nat} (h : fnNo p = some i) : p = .fn i := by
  cases p <;> first | (cases h; done) | skip
  cases h; rfl
def gCallX (fm : Nat → Option (List PV → M PE')) (j : Nat) (gs : Ev → M (List PV)) : EX := fun ρ => do
  let p ← slF ρ[j]?
  let i ← liftO (fnNo p)
  let m ← liftO (fm i)
  let xs ← gs ρ
  m xs
theorem sx_callN {fm : Nat → Option (List PV → M PE')} (hl : ∀ i m, fm i = some m → FnX X.prog X.w X.K X.mg X.base k i n m) (hr : Room k X.A) (tk : Takes X (upW X.mg W)) (hN : X.N[j]? = some x) (hv : Vis X.env.scope x) (ha : SA X (e :: es) gs) (hn : Rows gs n)
    (hd : (x == ("__debug__" : Str)) = false := by decide) (hcd : (x == ("__classdict__" : Str)) = false := by decide)
    (he : starEach (e :: es) X.env = (false, eval e X.env) :: starEach es X.env := by rfl) (hpl : (backTo pos (starEach es X.env)).any (·.1) = false := by rfl) : SX X W (.Call (.Name x p) (e :: es) [] pos) (gCallX fm j gs) := ⟨fun pins s σ H Q I ⟨ah, F, N, ρ, hs, r0, hs', G, E, q, kk⟩ => by
  obtain ⟨p0, h1, q1, qa⟩ := M.bind_ok q
  obtain ⟨i, h3, q3, qb⟩ := M.bind_ok qa
  obtain ⟨m, h4, q4, qc⟩ := M.bind_ok qb
  obtain ⟨xs, h2, q2, qd⟩ := M.bind_ok qc
  obtain ⟨e1, e2⟩ := slF_ok q1
  obtain ⟨e3, e4⟩ := M.lift_ok q3
  obtain ⟨hm, e6⟩ := M.lift_ok q4
  have e2 : h1 = hs := e2
  have e4 : h3 = h1 := e4
  have e6 : h4 = h3 := e6
  rw [e6, e4, e2] at q2
  have ep := fnNo_some e3
  have e1 : ρ[j]? = some (.fz p0) := e1
  rw [ep] at e1
  obtain ⟨v0, ev, rv0⟩ := E.get e1
  obtain ⟨y, hy, f, fd, ps, hmy, hk, hb, FO⟩ := hl i m hm
  rw [hy] at hmy
  cases hmy
  cases rv0
  refine wpAny_Call_Name_kw (thn ((pe_var (pos := p) hN hv hd hcd).run pins s σ H (fun v H1 => v = .ref (Tbs.fa i) ∧ H1 = H) I ⟨.ref (Tbs.fa i), ev, rfl, rfl⟩) fun u s1 ⟨v, H1, I1, r1, q1⟩ => ?_)
  obtain ⟨ev, eH⟩ := q1
  subst ev
  rw [eH] at I1
  obtain rfl : u = Value.ref (Tbs.fa i) := r1
  refine PySem.W.callWith_K (h₀ := X.base) I1.ok.mod.kin hk (thn (ha.run pos pins s1 σ H (fun vs H2 => spX X.K X.mg n m vs H2 Q (WE (upW X.mg W) σ)) I1 ⟨ah, F, N, ρ, hs, xs, h2, G, E, q2, ?_⟩) fun us s2 ⟨vs, H2, I2, r, qq⟩ => ⟨I2.kIn, ?_⟩) he hpl
  · intro F1 H1 v1 x1 G1 r1
    refine ⟨by rw [r1.length]; exact hn _ _ _ _ q2, ah, F1, xs, h2, r0, hs', G1, r1, qd, ?_⟩
    cases r0 with
    | inl p => exact fun F2 H2 v x2 G2 r2 => kk F2 H2 v (x1.trans G G1 x2) G2 r2
    | inr c => exact fun F2 H2 cls d x2 G2 hd hm2 => ⟨hd, c, hm2, kk F2 H2 (x1.trans G G1 x2) G2⟩
  · exact run_fnS FO hr hb (passAt tk σ) I2 r qq⟩
theorem KnownX.mono {P : Program} {w : World} {K : Fg} {mg : Str → Option Value} {base : Heap} {k' : Nat} {m : List PV → M PE'} (h : KnownX P w K mg base x n k m) (hk : k ≤ k') : KnownX P w K mg base x n k' m := by
  obtain ⟨f, fd, ps, h1, h2, h3, F⟩ := h
  exact ⟨f, fd, ps, h1, h2, h3, F.mono hk⟩
end
end SL

end
section
/-! SMa: defs whose code object is known; defs that try; the law with tables -/
namespace SL
open PySem PySem.Spec PyProof.Rows L2 LamX NdefX
variable [Tbs]
/-- a def of the text, its code object at c -/
structure FunC (K : Fg) (x qual : Str) (st : Stmt) (f : Addr) (fd : FuncData) (c : Addr) : Prop where
  ex : ∃ (oc : Value) (od : Option Addr) (kV doc pm : Value) (an : Option Addr) (ct : Value) (osl : Array (Option Value)),
    fd = PySem.W.fnOf x qual (defArgs st) (defBody st) (defScope st) .none kV doc pm an (.ref c) ct ∧ K.lookup f = some ⟨oc, od, .func fd, osl⟩ ∧ PySem.W.codeIn K (.ref c) qual = true
  kp : PySem.W.keepIn K (.ref f) = true
theorem funC_mk {K : Fg} {x qual : Str} {st : Stmt} {f c : Addr} {oc : Value} {od an : Option Addr} {osl : Array (Option Value)} {kV doc pm ct : Value} (l : K.lookup f = some ⟨oc, od, .func (PySem.W.fnOf x qual (defArgs st) (defBody st) (defScope st) .none kV doc pm an (.ref c) ct), osl⟩)
    (d : PySem.W.codeIn K (.ref c) qual = true) (k : PySem.W.keepIn K (.ref f) = true) : FunC K x qual st f (PySem.W.fnOf x qual (defArgs st) (defBody st) (defScope st) .none kV doc pm an (.ref c) ct) c := ⟨⟨oc, od, kV, doc, pm, an, ct, osl, rfl, l, d⟩, k⟩
theorem FunC.fun {K : Fg} {x qual : Str} {st : Stmt} {f c : Addr} {fd : FuncData} (F : FunC K x qual st f fd c) : Fun K x qual st f fd := by
  obtain ⟨oc, od, kV, doc, pm, an, ct, osl, h1, h2, h3⟩ := F.ex
  exact ⟨⟨oc, od, kV, doc, pm, an, _, ct, osl, h1, h2, h3⟩, F.kp⟩
def FnC (K : Fg) (mg : Str → Option Value) (x : Str) (st : Stmt) (ps : List Str) (c : Addr) : Prop := ∃ f fd, mg x = some (.ref f) ∧ FunC K x x st f fd c ∧ L2.Binds K fd ps []
section
variable {P : Program} {w : World} {K : Fg} {mg : Str → Option Value} {base : Heap}
theorem FunC.ok {x qual : Str} {st : Stmt} {f c : Addr} {fd : FuncData} {N ps : List Str} {k : Nat} {sp : Sp} (F : FunC K x qual st f fd c) (S : FnScope N ps (defScope st)) (len : ∀ vs H Q E, sp vs H Q E → vs.length = ps.length)
    (hbody : ∀ (A : Around) (outer : List Env) (s : Shared) (H : Hp) (vs : List V) (Q : VK) (E : XK), Room k (A.deeper (envOfC qual (defScope st) s.heap.objs.size f (.ref c))) → sp vs H Q E →
      ∃ t, PSs (cxOf CX0 P w K mg base N qual (defScope st) f (.ref c) A outer s H E).nox (defBody st) t ∧ t { nx := fun _ H' => Q .non H', rt := Q } (L2.start N vs) H) : FnOk P w K mg base CX0 (k + 1) f fd ps sp := by
  obtain ⟨oc, od, kV, doc, pm, an, ct, osl, rfl, lk, hcd⟩ := F.ex
  refine fn_of lk hcd S len fun A outer s H vs Q E hr hsp => ?_
  obtain ⟨t, h, q⟩ := hbody A outer s H vs Q E hr hsp
  exact ⟨t, h.nox, q⟩
theorem FunC.okX {x qual : Str} {st : Stmt} {f c : Addr} {fd : FuncData} {N ps : List Str} {k : Nat} {sp : Sp} (F : FunC K x qual st f fd c) (S : FnScope N ps (defScope st)) (len : ∀ vs H Q E, sp vs H Q E → vs.length = ps.length)
    (hbody : ∀ (A : Around) (outer : List Env) (s : Shared) (H : Hp) (vs : List V) (Q : VK) (E : XK), Room k (A.deeper (envOfC qual (defScope st) s.heap.objs.size f (.ref c))) → sp vs H Q E →
      ∃ t, PSs (cxOf (L2.CX P w) P w K mg base N qual (defScope st) f (.ref c) A outer s H E) (defBody st) t ∧ t { nx := fun _ H' => Q .non H', rt := Q } (L2.start N vs) H) : FnOk P w K mg base (L2.CX P w) (k + 1) f fd ps sp := by
  obtain ⟨oc, od, kV, doc, pm, an, ct, osl, rfl, lk, hcd⟩ := F.ex
  exact fn_of lk hcd S len fun A outer s H vs Q E hr hsp => hbody A outer s H vs Q E hr hsp
theorem ok_fnC {x qual : Str} {st : Stmt} {f c : Addr} {fd : FuncData} {Ns ps : List Str} {k : Nat} {g : SM} (Fu : FunC K x qual st f fd c) (S : FnScope Ns ps (defScope st))
    (hb : ∀ (A : Around) (outer : List Env) (s : Shared) (H : Hp) (E : XK), Room k (A.deeper (envOfC qual (defScope st) s.heap.objs.size f (.ref c))) → SSs (cxOf CX0 P w K mg base Ns qual (defScope st) f (.ref c) A outer s H E).nox noW (defBody st) g) :
    FnOk P w K mg base CX0 (k + 1) f fd ps (spM K ps.length (fnM Ns.length g)) := by
  refine Fu.ok S (fun vs H Q E h => h.1) fun A outer s H vs Q E hr h => ⟨_, hb A outer s H E hr, ?_⟩
  obtain ⟨hl, ah, F, qs, hs, p, hs', G, r, q, k⟩ := h
  obtain ⟨o, h1, q1, q⟩ := M.bind_ok q
  refine ⟨ah, F, H, F, ev0 Ns.length qs, hs, o, h1, ⟨⟨hs, G⟩, .refl, G, er_start r⟩, q1, ?_⟩
  cases o with
  | nx ρ => cases M.pure_ok q; exact fun F' H' σ' I' _ => k F' H' _ I'.ext I'.gi .non
  | rt p => cases M.pure_ok q; exact fun F' H' v x' G' r' => k F' H' v x' G' r'
  | _ => cases q
theorem knownC {x qual : Str} {st : Stmt} {f c : Addr} {fd : FuncData} {Ns ps : List Str} {k n : Nat} {g : SM} (hm : mg x = some (.ref f)) (Fu : FunC K x qual st f fd c) (b : L2.Binds K fd ps []) (S : FnScope Ns ps (defScope st)) (hn : ps.length = n)
    (hb : ∀ (A : Around) (outer : List Env) (s : Shared) (H : Hp) (E : XK), Room k (A.deeper (envOfC qual (defScope st) s.heap.objs.size f (.ref c))) → SSs (cxOf CX0 P w K mg base Ns qual (defScope st) f (.ref c) A outer s H E).nox noW (defBody st) g) :
    Known P w K mg base x n (k + 1) (fnM Ns.length g) := ⟨f, fd, ps, hm, Fu.kp, b, by rw [← hn]; exact ok_fnC Fu S hb⟩
theorem ok_fnXC {x qual : Str} {st : Stmt} {f c : Addr} {fd : FuncData} {Ns ps : List Str} {k : Nat} {g : SM} (Fu : FunC K x qual st f fd c) (S : FnScope Ns ps (defScope st))
    (hb : ∀ (W : EW) (A : Around) (outer : List Env) (s : Shared) (H : Hp) (E : XK), Room k (A.deeper (envOfC qual (defScope st) s.heap.objs.size f (.ref c))) →
      Takes (cxOf (L2.CX P w) P w K mg base Ns qual (defScope st) f (.ref c) A outer s H E) (upW mg W) → SSs (cxOf (L2.CX P w) P w K mg base Ns qual (defScope st) f (.ref c) A outer s H E) W (defBody st) g) :
    FnOk P w K mg base (L2.CX P w) (k + 1) f fd ps (spX K mg ps.length (fnX Ns.length g)) := by
  refine Fu.okX S (fun vs H Q E h => h.1) fun A outer s H vs Q E hr h => ?_
  refine ⟨_, hb (fun c H' => ∀ cls d, XdOk d H' → mg c = some cls → E cls d H') A outer s H E hr (Takes.imp (takes_of (X := cxOf (L2.CX P w) P w K mg base Ns qual (defScope st) f (.ref c) A outer s H E) (E := E) rfl rfl rfl rfl) fun c d σ H ⟨hd, c', hm, hW⟩ => hW _ _ hd hm), ?_⟩
  obtain ⟨hl, ah, F, qs, hs, r, hs', G, rr, q, kk⟩ := h
  obtain ⟨o, h1, q1, q⟩ := M.bind_ok q
  refine ⟨ah, F, H, F, ev0 Ns.length qs, hs, o, h1, ⟨⟨hs, G⟩, .refl, G, er_start rr⟩, q1, ?_⟩
  cases o with
  | nx ρ => cases M.pure_ok q; exact fun F' H' σ' I' _ => kk F' H' _ I'.ext I'.gi .non
  | rt p => cases M.pure_ok q; exact fun F' H' v x' G' r' => kk F' H' v x' G' r'
  | ex c => cases M.pure_ok q; exact fun F' H' x' G' cls d hd hm => kk F' H' cls d x' G' hd hm
  | _ => cases q
theorem knownXC {x qual : Str} {st : Stmt} {f c : Addr} {fd : FuncData} {Ns ps : List Str} {k n : Nat} {g : SM} (hm : mg x = some (.ref f)) (Fu : FunC K x qual st f fd c) (b : L2.Binds K fd ps []) (S : FnScope Ns ps (defScope st)) (hn : ps.length = n)
    (hb : ∀ (W : EW) (A : Around) (outer : List Env) (s : Shared) (H : Hp) (E : XK), Room k (A.deeper (envOfC qual (defScope st) s.heap.objs.size f (.ref c))) →
      Takes (cxOf (L2.CX P w) P w K mg base Ns qual (defScope st) f (.ref c) A outer s H E) (upW mg W) → SSs (cxOf (L2.CX P w) P w K mg base Ns qual (defScope st) f (.ref c) A outer s H E) W (defBody st) g) :
    KnownX P w K mg base x n (k + 1) (fnX Ns.length g) := ⟨f, fd, ps, hm, Fu.kp, b, by rw [← hn]; exact ok_fnXC Fu S hb⟩
theorem ok_lawC {x qual : Str} {st s0 : Stmt} {sts : List Stmt} {f c : Addr} {fd : FuncData} {Ns : List Str} {k : Nat} {g s2 : SM} (i : Nat) (Fu : FunC K x qual st f fd c) (S : FnScope Ns ["script"] (defScope st)) (hd : defBody st = s0 :: sts)
    (h1 : ∀ (A : Around) (outer : List Env) (s : Shared) (H : Hp) (E : XK), Room k (A.deeper (envOfC qual (defScope st) s.heap.objs.size f (.ref c))) → SS (cxOf CX0 P w K mg base Ns qual (defScope st) f (.ref c) A outer s H E).nox noW s0 g)
    (h2 : ∀ (A : Around) (outer : List Env) (s : Shared) (H : Hp) (E : XK), Room k (A.deeper (envOfC qual (defScope st) s.heap.objs.size f (.ref c))) → SSs (cxOf CX0 P w K mg base Ns qual (defScope st) f (.ref c) A outer s H E).nox noW sts s2) :
    FnOk P w K mg base CX0 (k + 1) f fd ["script"] (spN K (fnM Ns.length (sSeq g (sHand i s2)))) := by
  refine Fu.ok S (fun vs H Q E h => h.1) fun A outer s H vs Q E hr h => ⟨_, by rw [hd]; exact pss_cons (h1 A outer s H E hr) (sss_hand i (h2 A outer s H E hr)), ?_⟩
  obtain ⟨hl, F, qs, p, hs', G, r, q, k⟩ := h
  obtain ⟨o, h3, q1, q⟩ := M.bind_ok q
  obtain ⟨o1, h4, q2, q3⟩ := M.bind_ok q1
  refine ⟨⟨none⟩, F, H, F, ev0 Ns.length qs, [], o1, h4, ⟨⟨[], G⟩, .refl, G, er_start r⟩, q2, ?_⟩
  have fin : Fin K ⟨none⟩ F H F H { nx := fun _ H' => Q .non H', rt := Q } noW h3 o := by
    cases o with
    | nx ρ => cases M.pure_ok q; exact fun F' H' σ' I' _ => k F' H' _ I'.ext I'.gi .non
    | rt p => cases M.pure_ok q; exact fun F' H' v x' G' r' => k F' H' v x' G' r'
    | _ => cases q
  cases o1 with
  | nx ρ1 => exact fun F1 H1 σ1 I1 k1 => ⟨F, H, F1, ρ1, h4, o, h3, I1, q3, fin.kp k1⟩
  | rt p1 => cases M.pure_ok q3; exact fin
  | rtF p1 => cases M.pure_ok q3; exact fin
  | bk ρ1 => cases M.pure_ok q3; cases q
  | ct ρ1 => cases M.pure_ok q3; cases q
  | ex c => cases M.pure_ok q3; cases q
/-- a def of one parameter that tries it -/
theorem wordK_of {x a : Str} {st : Stmt} {Ng : List Str} {k : Nat} {wm : PE' → M PV} (hm : ∃ f fd, mg x = some (.ref f) ∧ Fun K x x st f fd ∧ L2.Binds K fd [a] []) (S : FnScope Ng [a] (defScope st)) (hi : Ng[0]? = some a) (hv : Vis (defScope st) a)
    (hG : ∀ (g : Addr) (cdv : Value), GivesW P w K mg base Ng x (defScope st) g cdv (defBody st) a k wm) (hd : (a == ("__debug__" : Str)) = false := by decide) (hcd : (a == ("__classdict__" : Str)) = false := by decide) : WordK P w K mg base x k wm := by
  obtain ⟨f, fd, h1, F, b⟩ := hm
  obtain ⟨oc, od, kV, doc, pm, an, cdv, ct, osl, rfl, lk, hcd2⟩ := F.ex
  exact ⟨f, a, Ng, defArgs st, defBody st, defScope st, .none, kV, doc, pm, cdv, ct, oc, an, od, osl, h1, F.kp, lk, hcd2, b, S, hi, hv, hd, hcd, hG f cdv⟩
end
/-! ### the errors' classes -/
/-- each of cs is a class of errors, below the one at CS; is (c, d): whether c is below d -/
structure ErrK (K : Fg) (mg : Str → Option Value) (cs : List Str) (e : Str) : Prop where
  top : ∃ CS, mg e = some (.ref CS) ∧ ∀ c ∈ cs, ∀ cls, mg c = some cls → PySem.W.exmOne K cls (.ref CS) = some true
  ex : ∀ c ∈ cs, ∃ C, mg c = some (.ref C) ∧ ExcC K C
  isi : ∀ c ∈ cs, ∀ d ∈ cs, ∀ C D, mg c = some (.ref C) → mg d = some (.ref D) → PySem.W.kitOne K (.ref C) (.ref D) = some (c == d)
theorem se_isC {X : Cx} {a : Addr} {d : Option Addr} {cls : Value} {oe : Obj} {pn : List (Addr × Obj)} {cs : List Str} {c e : Str} (R : ErrK X.K X.mg cs e) (hc : c ∈ cs) (hcm : X.mg c = some cls) (hz : Zc cls d oe) (hf : ∃ vs, oe.data = .fields vs) (i : Nat) (y : Str) {x : Str} {p p1 p2 pos : Pos}
    (hy : y ∈ cs) (hN : X.N[i]? = some x) (hv : Vis X.env.scope x) (hm : X.mg "isinstance" = none)
    (hg : Gl X "isinstance" := by rfl) (hgy : Gl X y := by rfl) (hdx : (x == ("__debug__" : Str)) = false := by decide) (hcx : (x == ("__classdict__" : Str)) = false := by decide) (hdy : (y == ("__debug__" : Str)) = false := by decide) :
    SE (X.suite a ((a, oe) :: pn)) (.Call (.Name "isinstance" p) [.Name x p1, .Name y p2] [] pos) (gIsE i a d (c == y)) := by
  obtain ⟨D, hD, EC⟩ := R.ex c hc
  obtain ⟨C, hC, _⟩ := R.ex y hy
  rw [hD] at hcm
  cases hcm
  exact se_isE EC hz hf hN hv hC (R.isi c hc y hy D C hD hC) hm hg hgy hdx hcx hdy
/-! ### the law with tables -/
theorem law_sp1 {K : Fg} {m : List PV → M PV} {H : Hp} {a : Addr} {ns : List Int} {E : XK} (hl : ns.length ≤ 63) (hT : LamX.Tabs Tbs.tb H) (hS : SqL K H a (ns.map V.int)) (hm : ∃ hs', m [.scr ns] [] = .ok (.bl true, hs')) : spN K m [.ref a] H (fun v _ => v = .bl true) E := by
  obtain ⟨hs', hm⟩ := hm
  have hz : ns.length ≤ sizeLine := by rw [szE]; show ns.length ≤ 16777216; omega
  rcases hS with (h | h) | h
  · refine ⟨rfl, fun b => b = a, [.scr ns], .bl true, hs', ⟨fun b f => (by rw [f, h]; simp), fun b e => (by cases e), hT, fun b ps f => (by rw [f, h]; intro z; cases z)⟩, .cons (.scr (.inl ⟨rfl, h⟩) hz) .nil, hm, fun F' H' v _ _ r => by cases r; rfl⟩
  · exact ⟨rfl, fun _ => False, [.scr ns], .bl true, hs', ⟨fun _ f => f.elim, fun b e => (by cases e), hT, fun _ _ f => f.elim⟩, .cons (.scr (.inr (.inl h)) hz) .nil, hm, fun F' H' v _ _ r => by cases r; rfl⟩
  · exact ⟨rfl, fun _ => False, [.scr ns], .bl true, hs', ⟨fun _ f => f.elim, fun b e => (by cases e), hT, fun _ _ f => f.elim⟩, .cons (.scr (.inr (.inr h)) hz) .nil, hm, fun F' H' v _ _ r => by cases r; rfl⟩
theorem tabs_nil {H : Hp} (h : ∀ p ∈ Tbs.tb, H p.1 = some (.tbl #[])) : LamX.Tabs Tbs.tb H := fun p hp => .nil (h p hp)
/-- what a raise makes of the body's end -/
def finX : Out → M PE'
  | .rt p => pure (.inl p)
  | .nx _ => pure (.inl .non)
  | .ex c => pure (.inr c)
  | _ => stuck
theorem fnX_u {nl : Nat} {b : SM} {ps : List PV} : fnX nl b ps = (b (ev0 nl ps) >>= finX) := by
  unfold fnX
  congr 1
end SL

end
section
/-! SMb: the errors' classes by one run -/
namespace SL
open PySem PySem.Spec PyProof.Rows L2 LamX NdefX
variable [Tbs]
def excCB (K : Fg) (D : Addr) : Bool :=
  PySem.W.findIn K (.ref D) "__getattribute__" == some (some (.builtin "BaseException.__getattribute__")) && PySem.W.findIn K (.ref D) "__getattr__" == some none &&
  PySem.W.subIn K (.ref D) (.type "BaseException") == some true && PySem.W.hasDictIn K D && PySem.W.findIn K (.ref D) "__class__" == some (some (.builtin "object.__class__")) &&
  PySem.W.specialIn K (.builtin "object.__class__") "__get__" == some (some (.builtin "getset_descriptor.__get__")) && PySem.W.takesIn K (.builtin "object.__class__") == some true && PySem.W.mroIn K D (.type "object") == some true
theorem excC_of {K : Fg} {D : Addr} (h : excCB K D = true) : ExcC K D := by
  unfold excCB at h
  simp only [Bool.and_eq_true, beq_iff_eq] at h
  obtain ⟨⟨⟨⟨⟨⟨⟨h1, h2⟩, h3⟩, h4⟩, h5⟩, h6⟩, h7⟩, h8⟩ := h
  exact ⟨h1, h2, h3, h4, h5, h6, h7, h8⟩
def veB : List Value := [.type "ValueError", .type "Exception", .type "BaseException", .type "object"]
def err1 (K : Fg) (CS C : Addr) : Bool :=
  excCB K C && PySem.W.exmOne K (.ref C) (.ref CS) == some true && PySem.W.keepIn K (.ref C) && PySem.W.typeIn K (.ref C) == some (.type "type")
def errB (K : Fg) (CS : Addr) (cs : List (Str × Addr)) : Bool := cs.all fun c => err1 K CS c.2 && cs.all fun d => PySem.W.kitOne K (.ref c.2) (.ref d.2) == some (c.1 == d.1)
section
variable {K : Fg} {mg : Str → Option Value} {CS : Addr} {cs : List (Str × Addr)} {e : Str}
theorem errK_of (hm : ∀ c ∈ cs, mg c.1 = some (.ref c.2)) (he : mg e = some (.ref CS)) (h : errB K CS cs = true) : ErrK K mg (cs.map (·.1)) e := by
  unfold errB at h
  rw [List.all_eq_true] at h
  have h1 : ∀ c ∈ cs, err1 K CS c.2 = true := fun c hc => (Bool.and_eq_true_iff.mp (h c hc)).1
  have h2 : ∀ c ∈ cs, ∀ d ∈ cs, PySem.W.kitOne K (.ref c.2) (.ref d.2) = some (c.1 == d.1) := fun c hc d hd => beq_iff_eq.mp (List.all_eq_true.mp (Bool.and_eq_true_iff.mp (h c hc)).2 d hd)
  refine ⟨⟨CS, he, fun x hx cls hcls => ?_⟩, fun x hx => ?_, fun x hx y hy C D hC hD => ?_⟩
  · obtain ⟨c, hc, rfl⟩ := List.mem_map.mp hx
    rw [hm c hc] at hcls
    cases hcls
    have := h1 c hc
    unfold err1 at this
    simp only [Bool.and_eq_true, beq_iff_eq] at this
    exact this.1.1.2
  · obtain ⟨c, hc, rfl⟩ := List.mem_map.mp hx
    have := h1 c hc
    unfold err1 at this
    simp only [Bool.and_eq_true, beq_iff_eq] at this
    exact ⟨_, hm c hc, excC_of this.1.1.1⟩
  · obtain ⟨c, hc, rfl⟩ := List.mem_map.mp hx
    obtain ⟨d, hd, rfl⟩ := List.mem_map.mp hy
    rw [hm c hc] at hC
    rw [hm d hd] at hD
    cases hC
    cases hD
    exact h2 c hc d hd
theorem exK_of {x : Str} {C : Addr} (hm : mg x = some (.ref C)) (h : err1 K CS C = true) (hq : PySem.W.excIn K C veB "ValueError.__new__" = true) : ExK K mg x := by
  unfold err1 excCB at h
  simp only [Bool.and_eq_true, beq_iff_eq] at h
  exact ⟨C, veB, "ValueError", "ValueError.__new__", "ValueError.__init__", hm, h.1.2, PySem.F.excBase_ValueError, hq, h.1.1.1.1.1.1.1.1.2, h.2⟩
theorem errs_at (h : errB K CS cs = true) (c : Str × Addr) (hc : c ∈ cs) : err1 K CS c.2 = true := (Bool.and_eq_true_iff.mp (List.all_eq_true.mp h c hc)).1
end
/-! ### a lambda's reading in a word's suite -/
theorem e_isE {i a : Nat} {d : Option Nat} {b : Bool} {ρ : Ev} (h : ρ[i]? = some (.fz (exE a d))) : gIsE i a d b ρ = pure (.bl b) := by
  unfold gIsE
  rw [h]
  cases d <;> exact guardT rfl
@[simp] theorem e_isE1 {a : Nat} {d : Option Nat} {b : Bool} {s : Slot} {r : Ev} : gIsE 1 a d b (s :: .fz (exE a d) :: r) = pure (.bl b) := e_isE rfl
@[simp] theorem e_isE2 {a : Nat} {d : Option Nat} {b : Bool} {s t : Slot} {r : Ev} : gIsE 2 a d b (s :: t :: .fz (exE a d) :: r) = pure (.bl b) := e_isE rfl
@[simp] theorem e_isE3 {a : Nat} {d : Option Nat} {b : Bool} {s t u : Slot} {r : Ev} : gIsE 3 a d b (s :: t :: u :: .fz (exE a d) :: r) = pure (.bl b) := e_isE rfl
@[simp] theorem e_meth {ok : PV → Bool} {fp : PV → List PV → M PV} {g : EM} {gs : Ev → M (List PV)} {ρ : Ev} : gMeth ok fp g gs ρ = (g ρ >>= fun x => guardM (ok x = true) (gs ρ >>= fun xs => fp x xs)) := rfl
@[simp] theorem e_word {wm : PE' → M PV} {g : EX} {ρ : Ev} : gWord wm g ρ = (g ρ >>= wm) := rfl
@[simp] theorem e_BX {m : List PV → M PE'} {gs : Ev → M (List PV)} {ρ : Ev} : gBX m gs ρ = (gs ρ >>= m) := rfl
@[simp] theorem e_exprX {g : EX} {ρ : Ev} : sExprX g ρ = (g ρ >>= fun r => match r with
  | .inl _ => pure (.nx ρ)
  | .inr c => pure (.ex c)) := rfl
@[simp] theorem e_retX {g : EX} {ρ : Ev} : sRetX g ρ = (g ρ >>= fun r => match r with
  | .inl p => pure (.rt p)
  | .inr c => pure (.ex c)) := rfl
@[simp] theorem e_raise {c : Str} {ρ : Ev} : sRaise c ρ = pure (.ex c) := rfl
@[simp] theorem e_Xof {g : EM} {ρ : Ev} : gXof g ρ = (g ρ >>= fun p => pure (.inl p)) := rfl
end SL

end
section
/-! SMc: small things for the end -/
namespace SL
open PySem PySem.Spec PyProof.Rows L2 LamX NdefX
variable [Tbs]
theorem errK_sub {K : Fg} {mg : Str → Option Value} {cs ds : List Str} {e : Str} (h : ErrK K mg cs e) (s : ∀ c ∈ ds, c ∈ cs) : ErrK K mg ds e := by
  obtain ⟨CS, h1, h2⟩ := h.top
  exact ⟨⟨CS, h1, fun c hc => h2 c (s c hc)⟩, fun c hc => h.ex c (s c hc), fun c hc d hd => h.isi c (s c hc) d (s d hd)⟩
end SL
namespace SL
open PySem PySem.Spec PyProof.Rows L2
theorem all_pairsB {cs : List (Addr × Addr)} {f : Addr × Addr → Bool} (h : cs.all f = true) : ∀ p ∈ cs, f p = true := List.all_eq_true.mp h
theorem all_pairs {cs : List (Addr × Addr)} {K : PySem.W.Frag} (h : (cs.all fun p => (K.lookup p.2).isNone) = true) : ∀ p ∈ cs, K.lookup p.2 = none := fun p hp => Option.isNone_iff_eq_none.mp (List.all_eq_true.mp h p hp)
end SL

end
section
/-! SMd: several new things stored at once; tuples with empty dicts compared -/
namespace SL
open PySem PySem.Spec PyProof.Rows L2 LamX NdefX
variable [Tbs]
/-! ### several stores at once -/
/-- values as they are to be put into slots -/
inductive SlotsIs (K : Fg) (ah : Ax) (Z F : Addr → Prop) (H : Hp) : List V → List Slot → Prop
  | nil : SlotsIs K ah Z F H [] []
  | fz {v : V} {p : PV} {vs : List V} {ss : List Slot} : Rep K ah F H v p → SlotsIs K ah Z F H vs ss → SlotsIs K ah Z F H (v :: vs) (.fz p :: ss)
  | ow {a : Addr} {p : PV} {vs : List V} {ss : List Slot} : Z a → ¬ F a → ah.hd ≠ some a → Own K ah F H a p → (∀ (j : Nat) (q : PV), ss[j]? = some (.ow q) → vs[j]? ≠ some (.ref a)) → SlotsIs K ah Z F H vs ss → SlotsIs K ah Z F H (.ref a :: vs) (.ow p :: ss)
def tSS_ (K : Fg) (gs : Ev → M (List Slot)) : TA := fun σ H Q => ∃ ah F N ρ hs ss hs', GI K ah F H hs ∧ ER K ah F H N σ ρ ∧ gs ρ hs = .ok (ss, hs') ∧
  ∀ F' H' vs, Ext K ah F H F' H' → GI K ah F' H' hs' → SlotsIs K ah (fun a => H a = none) F' H' vs ss → Q vs H'
abbrev SP (X : Cx) (es : List Expr) (gs : Ev → M (List Slot)) : Prop := PA X es (tSS_ X.K gs)
section
variable {K : Fg} {ah : Ax} {F F' N Z : Addr → Prop} {H H' : Hp} {hs : HS} {σ : L2.St} {ρ : Ev}
theorem SlotsIs.own : ∀ {vs : List V} {ss : List Slot} {j : Nat} {q : PV}, SlotsIs K ah Z F H vs ss → ss[j]? = some (.ow q) → ∃ a, vs[j]? = some (.ref a) ∧ Z a
  | _, _, j, q, .nil, e => by simp at e
  | _, _, 0, q, .fz _ _, e => by simp at e
  | _, _, j + 1, q, .fz _ t, e => by
    obtain ⟨a, h1, h2⟩ := SlotsIs.own (j := j) (q := q) t (by simpa using e)
    exact ⟨a, by simpa using h1, h2⟩
  | _, _, 0, q, .ow z _ _ _ _ _, e => ⟨_, rfl, z⟩
  | _, _, j + 1, q, .ow _ _ _ _ _ t, e => by
    obtain ⟨a, h1, h2⟩ := SlotsIs.own (j := j) (q := q) t (by simpa using e)
    exact ⟨a, by simpa using h1, h2⟩
def setL : L2.St → List Nat → List V → L2.St
  | σ, i :: is, v :: vs => setL (σ.set i (some v)) is vs
  | σ, _, _ => σ
def setE : Ev → List Nat → List Slot → Ev
  | ρ, i :: is, s :: ss => setE (ρ.set i s) is ss
  | ρ, _, _ => ρ
theorem ER.sets (hz : ∀ a, Z a → N a) : ∀ {is : List Nat} {vs : List V} {ss : List Slot} {σ : L2.St} {ρ : Ev}, ER K ah F H N σ ρ → SlotsIs K ah Z F H vs ss →
    (∀ (j k : Nat) (t p : PV) (v : V), ρ[j]? = some (.ow t) → ss[k]? = some (.ow p) → vs[k]? = some v → σ[j]? ≠ some (some v)) → ER K ah F H N (setL σ is vs) (setE ρ is ss)
  | [], vs, ss, σ, ρ, E, _, _ => by cases vs <;> cases ss <;> exact E
  | i :: is, _, _, σ, ρ, E, .nil, _ => E
  | i :: is, _, _, σ, ρ, E, .fz (v := v) (p := p) (vs := vs) (ss := ss) r t, d => by
    show ER K ah F H N (setL (σ.set i (some v)) is vs) (setE (ρ.set i (.fz p)) is ss)
    refine ER.sets hz (E.setF r) t fun j k t' p' v' e1 e2 e3 => ?_
    by_cases hj : i = j
    · subst hj
      by_cases hl : i < ρ.length
      · rw [List.getElem?_set_self hl] at e1; cases e1
      · rw [List.getElem?_eq_none (by rw [List.length_set]; omega)] at e1; cases e1
    · rw [List.getElem?_set_ne hj] at e1
      rw [List.getElem?_set_ne hj]
      exact d j (k + 1) t' p' v' e1 (by simpa using e2) (by simpa using e3)
  | i :: is, _, _, σ, ρ, E, .ow (a := a) (p := p) (vs := vs) (ss := ss) z nf nh o ap t, d => by
    show ER K ah F H N (setL (σ.set i (some (.ref a))) is vs) (setE (ρ.set i (.ow p)) is ss)
    refine ER.sets hz (E.set (.ow nf nh (hz _ z) o) fun q _ j t' ne e1 => d j 0 t' p _ e1 rfl rfl) t fun j k t' p' v' e1 e2 e3 => ?_
    by_cases hj : i = j
    · subst hj
      by_cases hl : i < ρ.length
      · rw [List.getElem?_set_self (by rw [← E.len]; exact hl)]
        intro z2
        have z3 := Option.some.inj (Option.some.inj z2)
        rw [← z3] at e3
        exact ap k p' e2 e3
      · rw [List.getElem?_eq_none (by rw [List.length_set]; omega)] at e1; cases e1
    · rw [List.getElem?_set_ne hj] at e1
      rw [List.getElem?_set_ne hj]
      exact d j (k + 1) t' p' v' e1 (by simpa using e2) (by simpa using e3)
end
section
variable {X : Cx} {a b c e : Expr} {es : List Expr} {x y z : Str} {pos : Pos} {g : EM} {gs : Ev → M (List Slot)} {W : EW}
def pNil : Ev → M (List Slot) := fun _ => pure []
def pFz (g : EM) (gs : Ev → M (List Slot)) : Ev → M (List Slot) := fun ρ => do
  let x ← g ρ
  let xs ← gs ρ
  pure (.fz x :: xs)
def pOw (g : EM) (gs : Ev → M (List Slot)) : Ev → M (List Slot) := fun ρ => do
  let x ← g ρ
  let xs ← gs ρ
  pure (.ow x :: xs)
theorem sp_nil : SP X [] pNil := PA.wk pa_nil fun σ H Q ⟨ah, F, N, ρ, hs, p, hs', G, E, q, k⟩ => by
  cases M.pure_ok q
  exact k F H _ .refl G .nil
theorem SlotsIs.weak {K : Fg} {ah : Ax} {F Z Z' : Addr → Prop} {H : Hp} {vs : List V} {ss : List Slot} (h : ∀ a, Z a → Z' a) (s : SlotsIs K ah Z F H vs ss) : SlotsIs K ah Z' F H vs ss := by
  induction s with
  | nil => exact .nil
  | fz r _ ih => exact .fz r ih
  | ow z nf nh o ap _ ih => exact .ow (h _ z) nf nh o ap ih
theorem sp_fz (h : SE X e g) (h' : SP X es gs) (hs : starEach (e :: es) X.env = (false, eval e X.env) :: starEach es X.env := by rfl) : SP X (e :: es) (pFz g gs) := PA.wk (pa_cons h h' hs) fun σ H Q ⟨ah, F, N, ρ, hs, p, hs', G, E, q, k⟩ => by
  obtain ⟨x, h1, q1, q⟩ := M.bind_ok q
  obtain ⟨y, h2, q2, q⟩ := M.bind_ok q
  cases M.pure_ok q
  refine ⟨ah, F, N, ρ, hs, x, h1, G, E, q1, fun F1 H1 v1 x1 G1 r1 => ⟨ah, F1, N, ρ, h1, y, _, G1, E.ext G x1, q2, fun F2 H2 v2 x2 G2 r2 => k F2 H2 _ (x1.trans G G1 x2) G2 (.fz (r1.mono (G1.kp x2)) (r2.weak fun a n => ?_))⟩⟩
  by_cases z : ah.hd = some a
  · obtain ⟨_, vs, r, _⟩ := G1.at_ a z
    rw [n] at r; cases r
  · exact x1.free G n z
theorem sp_ow (h : SF X e g) (h' : SP X es gs) (hs : starEach (e :: es) X.env = (false, eval e X.env) :: starEach es X.env := by rfl) : SP X (e :: es) (pOw g gs) := PA.wk (pa_cons h h' hs) fun σ H Q ⟨ah, F, N, ρ, hs, p, hs', G, E, q, k⟩ => by
  obtain ⟨x, h1, q1, q⟩ := M.bind_ok q
  obtain ⟨y, h2, q2, q⟩ := M.bind_ok q
  cases M.pure_ok q
  refine ⟨ah, F, N, ρ, hs, x, h1, G, E, q1, fun F1 H1 a1 x1 G1 n1 nf1 o1 => ⟨ah, F1, N, ρ, h1, y, _, G1, E.ext G x1, q2, fun F2 H2 v2 x2 G2 r2 => k F2 H2 _ (x1.trans G G1 x2) G2 (.ow n1 (fun z => ?_) (G.ne n1) (o1.ext G1 x2 (G.ne n1)) (fun j q e1 e2 => ?_) (r2.weak fun a n => ?_))⟩⟩
  · rcases x2.new _ z with z | z
    · exact nf1 z
    · obtain ⟨u, hu, _⟩ := o1.there
      rw [z] at hu; cases hu
  · obtain ⟨b, e3, n3⟩ := r2.own e1
    rw [e2] at e3
    cases e3
    obtain ⟨u, hu, _⟩ := o1.there
    rw [n3] at hu; cases hu
  · by_cases z : ah.hd = some a
    · obtain ⟨_, vs, r, _⟩ := G1.at_ a z
      rw [n] at r; cases r
    · exact x1.free G n z
theorem sets_inv {K : Fg} {ah : Ax} {F0 F F' : Addr → Prop} {H0 H H' : Hp} {σ : L2.St} {ρ : Ev} {hs hs' : HS} {vs : List V} {ss : List Slot} {is : List Nat} (I : SInv K ah F0 H0 F H σ ρ hs) (x : Ext K ah F H F' H') (G : GI K ah F' H' hs') (r : SlotsIs K ah (fun a => H a = none) F' H' vs ss) :
    SInv K ah F0 H0 F' H' (setL σ is vs) (setE ρ is ss) hs' := by
  have I1 := I.step x G
  refine ⟨I1.g0, I1.ext, G, I1.er.sets (fun a n => I.new n) r fun j k t p v e1 e2 e3 => ?_⟩
  obtain ⟨b, e4, _, _, _, o⟩ := I.er.own e1
  obtain ⟨a, e5, n⟩ := r.own e2
  rw [e3] at e5
  cases e5
  rw [e4]
  intro z
  cases z
  obtain ⟨u, hu, _⟩ := o.there
  rw [n] at hu; cases hu
/-- targets, all at once -/
def sParS (is : List Nat) (gs : Ev → M (List Slot)) : SM := fun ρ => do
  let ss ← gs ρ
  guardM (ss.length = is.length) (pure (.nx (setE ρ is ss)))
theorem SlotsIs.len {K : Fg} {ah : Ax} {F Z : Addr → Prop} {H : Hp} {vs : List V} {ss : List Slot} (s : SlotsIs K ah Z F H vs ss) : vs.length = ss.length := by
  induction s with
  | nil => rfl
  | fz _ _ ih => exact congrArg (· + 1) ih
  | ow _ _ _ _ _ _ ih => exact congrArg (· + 1) ih
theorem ss_parS2 {i j : Nat} {px py pt : Pos} {kt k2 : Nat} {pt2 : Pos} (hN : X.N.Nodup) (hi : X.N[i]? = some x) (hj : X.N[j]? = some y) (hij : i ≠ j)
    (hx : X.env.scope.names.lookup x = some .local) (hy : X.env.scope.names.lookup y = some .local) (ha : SP X [a, b] gs)
    (hw : swappedStores [.Tuple [.Name x px, .Name y py] kt pt] (.Tuple [a, b] k2 pt2) X.env = pure (some [x, y]))
    (hs : swapsWithSole [.Tuple [.Name x px, .Name y py] kt pt] (.Tuple [a, b] k2 pt2) pos.line X.env = pure false := by rfl) (hc : X.calm = true := by rfl) :
    SS X W (.Assign [.Tuple [.Name x px, .Name y py] kt pt] (.Tuple [a, b] k2 pt2) pos) (sParS [i, j] gs) := PS.wk (ps_par hc hN hi hj hij hx hy ha hw hs) fun D σ H ⟨ah, F0, H0, F, ρ, hs, out, hs', I, q, f⟩ => by
  obtain ⟨ps, h1, q1, q⟩ := M.bind_ok q
  obtain ⟨hl, q⟩ := guard_ok q
  cases M.pure_ok q
  refine ⟨ah, F, _, ρ, hs, _, _, I.gi, I.er, q1, fun F1 H1 vs x1 G1 r1 => ?_⟩
  have hl2 : vs.length = 2 := r1.len.trans hl
  match vs, hl2 with
  | [v, w], _ => exact ⟨v, w, rfl, f F1 H1 _ (sets_inv (is := [i, j]) I x1 G1 r1) (I.gi.kp x1)⟩
theorem ss_parS3 {i j l : Nat} {px py pz pt : Pos} {kt k2 : Nat} {pt2 : Pos} (hN : X.N.Nodup) (hi : X.N[i]? = some x) (hj : X.N[j]? = some y) (hl : X.N[l]? = some z) (hij : i ≠ j) (hil : i ≠ l) (hjl : j ≠ l)
    (hx : X.env.scope.names.lookup x = some .local) (hy : X.env.scope.names.lookup y = some .local) (hz : X.env.scope.names.lookup z = some .local) (ha : SP X [a, b, c] gs)
    (hw : swappedStores [.Tuple [.Name x px, .Name y py, .Name z pz] kt pt] (.Tuple [a, b, c] k2 pt2) X.env = pure (some [x, y, z]))
    (hs : swapsWithSole [.Tuple [.Name x px, .Name y py, .Name z pz] kt pt] (.Tuple [a, b, c] k2 pt2) pos.line X.env = pure false := by rfl) (hc : X.calm = true := by rfl) :
    SS X W (.Assign [.Tuple [.Name x px, .Name y py, .Name z pz] kt pt] (.Tuple [a, b, c] k2 pt2) pos) (sParS [i, j, l] gs) := PS.wk (ps_par3 hc hN hi hj hl hij hil hjl hx hy hz ha hw hs) fun D σ H ⟨ah, F0, H0, F, ρ, hs, out, hs', I, q, f⟩ => by
  obtain ⟨ps, h1, q1, q⟩ := M.bind_ok q
  obtain ⟨hl, q⟩ := guard_ok q
  cases M.pure_ok q
  refine ⟨ah, F, _, ρ, hs, _, _, I.gi, I.er, q1, fun F1 H1 vs x1 G1 r1 => ?_⟩
  have hl2 : vs.length = 3 := r1.len.trans hl
  match vs, hl2 with
  | [v, w, u], _ => exact ⟨v, w, u, rfl, f F1 H1 _ (sets_inv (is := [i, j, l]) I x1 G1 r1) (I.gi.kp x1)⟩
@[simp] theorem e_parS {is : List Nat} {ρ : Ev} : sParS is gs ρ = (gs ρ >>= fun ss => guardM (ss.length = is.length) (pure (.nx (setE ρ is ss)))) := rfl
@[simp] theorem e_pNil {ρ : Ev} : pNil ρ = pure [] := rfl
@[simp] theorem e_pFz {ρ : Ev} : pFz g gs ρ = (g ρ >>= fun x => gs ρ >>= fun xs => pure (.fz x :: xs)) := rfl
@[simp] theorem e_pOw {ρ : Ev} : pOw g gs ρ = (g ρ >>= fun x => gs ρ >>= fun xs => pure (.ow x :: xs)) := rfl
end
end SL
/-! ### two tuples that are equal, empty dicts within -/
namespace L2
open PySem PySem.Spec PyProof.Rows
/-- an empty dict at a, of whatever keys -/
def EmpD (h : Heap) (a : Addr) : Prop := (a == sysModules) = false ∧ ∃ o es ep, h.get? a = some o ∧ o.ExactDict ∧ o.data = .dict es ep ∧ es.toList = []
theorem EmpD.of {h : Heap} {a : Addr} (e : EmpD h a) (P : Program) (w : World) : h.DictOf (mixKind P w) a [] := by
  obtain ⟨_, o, es, ep, h1, h2, h3, h4⟩ := e
  refine ⟨o, es, ep, h1, h2, h3, ?_, ?_, List.nodup_nil⟩
  · intro d hd
    rw [← Array.mem_toList_iff, h4] at hd
    cases hd
  · rw [h4]; exact .nil
theorem EmpD.eq {s : Shared} {a b : Addr} {A : Around} (ha : EmpD s.heap a) (hb : EmpD s.heap b) (hu : A.units + 1 < cLine) : SeqAt.EqAt A s (.ref a) (.ref b) true := by
  by_cases e : a = b
  · subst e; exact SeqAt.EqAt.same _
  · intro P w E Q hq
    have t : PySem.W.EqTree P w s 1 (.ref a) (.ref b) true := .dicts (n := 0) (knd := mixKind P w) (ka := []) (kb := []) (e := fun _ => true) e ha.1 hb.1 (ha.of P w) (hb.of P w) (fun _ _ _ h => by cases h)
    exact t.at A hu E Q hq
section
variable {X : Cx} {pins : List (Addr × Obj)} {σ : St} {H : Hp} {s : Shared}
theorem emp_dK (I : Inv X pins σ H s) {a : Addr} (h : H a = some (.dK [])) : EmpD s.heap a := by
  obtain ⟨_, h1, vs, kv, o, es, ep, a1, a2, a3, a4, a5, _⟩ := I.hok a _ h
  cases kv
  refine ⟨h1, o, es, ep, a1, a2, a3, ?_⟩
  generalize es.toList = l at a5 ⊢
  cases a5; rfl
theorem emp_dT (I : Inv X pins σ H s) {a : Addr} (h : H a = some (.dT [])) : EmpD s.heap a := by
  obtain ⟨_, h1, xs, kv, o, es, ep, a1, a2, a3, a4, _⟩ := I.hok a _ h
  cases kv
  exact ⟨h1, o, es, ep, a1, a2, a3, a4⟩
/-- equal: flat ones alike, empty dicts -/
inductive EvE (H : Hp) : V → V → Prop
  | flat {v : V} : flatB v = true → EvE H v v
  | emp {a b : Addr} : (H a = some (.dK []) ∨ H a = some (.dT [])) → (H b = some (.dK []) ∨ H b = some (.dT [])) → EvE H (.ref a) (.ref b)
theorem EvE.at (I : Inv X pins σ H s) {A : Around} (hu : A.units + 1 < cLine) {x y : V} {v u : Value} (h : EvE H x y) (rx : RelV x v) (ry : RelV y u) : SeqAt.EqAt A s v u true := by
  cases h with
  | flat f => exact eqAt_same rx ry f
  | emp ha hb =>
    rename_i a b
    cases (show v = Value.ref a from rx)
    cases (show u = Value.ref b from ry)
    exact EmpD.eq (ha.elim (emp_dK I) (emp_dT I)) (hb.elim (emp_dK I) (emp_dT I)) hu
theorem evE_all (I : Inv X pins σ H s) {A : Around} (hu : A.units + 1 < cLine) {xs ys : List V} (hp : Paired (EvE H) xs ys) : ∀ {us ws : List Value}, Vals xs us → Vals ys ws → ∀ (j : Nat) (h1 : j < us.length) (h2 : j < ws.length), SeqAt.EqAt A s us[j] ws[j] true := by
  induction hp with
  | nil => intro us ws r1 r2 j h1 h2; cases r1; exact absurd h1 (Nat.not_lt_zero j)
  | cons h _ ih =>
    intro us ws r1 r2 j h1 h2
    cases r1 with
    | cons a1 b1 =>
      cases r2 with
      | cons a2 b2 =>
        cases j with
        | zero => exact h.at I hu a1 a2
        | succ j => exact ih b1 b2 j (Nat.lt_of_succ_lt_succ h1) (Nat.lt_of_succ_lt_succ h2)
def rNeE (K : PySem.W.Frag) : R2 := fun x y H Q => ∃ a b xs ys, x = .ref a ∧ y = .ref b ∧ SqT K H a xs ∧ SqT K H b ys ∧ Paired (EvE H) xs ys ∧ Q (.bl false) H
theorem op_neE (hu : X.A.units + 64 < cLine) : OpR X (compareOp .NotEq) (rNeE X.K) := by
  intro pins s σ H x y v u Q I rx ry h
  obtain ⟨a, b, xs, ys, rfl, rfl, ha, hb, hp, q⟩ := h
  cases (show v = Value.ref a from rx)
  cases (show u = Value.ref b from ry)
  obtain ⟨us, r1, p1, _⟩ := I.tuple ha
  obtain ⟨ws, r2, p2, _⟩ := I.tuple hb
  have hsz : us.length = ws.length := by rw [← r1.length, ← r2.length]; exact Paired.length hp
  have all := evE_all I (A := X.A.in1) (by show X.A.units + 1 + 1 < cLine; omega) hp r1 r2
  have key := SeqAt.RcNeAt.tuples (A := X.A) (e := fun _ => true) (show s.heap.IsTuple a us.toArray from p1) (show s.heap.IsTuple b ws.toArray from p2) (by omega) (fun j h1 h2 => by
    have := all j (by simpa using h1) (by simpa using h2)
    simpa using this)
  refine key X.prog X.w _ _ ?_
  refine ⟨.bl false, H, I, ?_, q⟩
  show Value.bool _ = Value.bool false
  congr 1
  simp [hsz]
end
end L2
namespace SL
open PySem PySem.Spec PyProof.Rows L2 LamX NdefX
variable [Tbs]
def emp? : PV → Bool
  | .dK [] => true
  | .dT [] => true
  | _ => false
def flatE : PV → PV → Bool
  | .non, .non => true
  | .bl a, .bl b => a == b
  | .int a, .int b => a == b
  | .str a, .str b => a == b
  | _, _ => false
def evE (p q : PV) : Bool := flatE p q || (emp? p && emp? q)
def evEs : List PV → List PV → Bool
  | [], [] => true
  | p :: ps, q :: qs => evE p q && evEs ps qs
  | _, _ => false
/-- != of two tuples that are equal, empty dicts within; else as ever -/
def pNeE : PV → PV → M PV
  | .tup l, .tup m => if evEs l m = true then pure (.bl false) else pNe (.tup l) (.tup m)
  | p, q => pNe p q
theorem emp_con {K : Fg} {ah : Ax} {F : Addr → Prop} {H : Hp} {v : V} {p : PV} (r : Rep K ah F H v p) (h : emp? p = true) : ∃ a, v = .ref a ∧ (H a = some (.dK []) ∨ H a = some (.dT [])) := by
  unfold emp? at h
  split at h
  · cases r with | dK f h1 z e r => ?_
    rename_i kvs
    cases kvs with
    | nil => exact ⟨_, rfl, .inl h1⟩
    | cons _ _ => cases r
  · cases r with | dT f h1 z e r => ?_
    rename_i kvs
    cases kvs with
    | nil => exact ⟨_, rfl, .inr h1⟩
    | cons _ _ => cases r
  · cases h
theorem evE_rep {K : Fg} {ah : Ax} {F : Addr → Prop} {H : Hp} {v w : V} {p q : PV} (r : Rep K ah F H v p) (r' : Rep K ah F H w q) (h : evE p q = true) : EvE H v w := by
  unfold evE at h
  rcases Bool.or_eq_true_iff.mp h with h | h
  · unfold flatE at h
    split at h
    · cases r; cases r'; exact .flat rfl
    · cases r; cases r'; rw [beq_iff_eq.mp h]; exact .flat rfl
    · cases r; cases r'; rw [beq_iff_eq.mp h]; exact .flat rfl
    · cases r; cases r'; rw [beq_iff_eq.mp h]; exact .flat rfl
    · cases h
  · rw [Bool.and_eq_true] at h
    obtain ⟨a, rfl, ha⟩ := emp_con r h.1
    obtain ⟨b, rfl, hb⟩ := emp_con r' h.2
    exact .emp ha hb
theorem evEs_reps {K : Fg} {ah : Ax} {F : Addr → Prop} {H : Hp} : ∀ {vs ws : List V} {ps qs : List PV}, Reps K ah F H vs ps → Reps K ah F H ws qs → evEs ps qs = true → Paired (EvE H) vs ws
  | _, _, _, _, .nil, .nil, _ => .nil
  | _, _, _, _, .nil, .cons _ _, h => by cases h
  | _, _, _, _, .cons _ _, .nil, h => by cases h
  | _, _, _, _, .cons r t, .cons r' t', h => by
    rw [evEs, Bool.and_eq_true] at h
    exact .cons (evE_rep r r' h.1) (evEs_reps t t' h.2)
section
variable {X : Cx}
theorem ops_neE : OpS X (fun x y H Q => rNeE X.K x y H Q ∨ (fun x y H Q => rNe x y H Q ∨ rNeD X.K x y H Q) x y H Q) pNeE := fun ah F H hs hs' x y p q z Q G c d e k => by
  unfold pNeE at e
  split at e
  · rename_i l m
    by_cases he : evEs l m = true
    · rw [if_pos he] at e
      cases M.pure_ok e
      obtain ⟨a, vs, rfl, h1, _, r1⟩ := c.tup
      obtain ⟨b, ws, rfl, h2, _, r2⟩ := d.tup
      exact .inl ⟨a, b, vs, ws, rfl, rfl, .of h1, .of h2, evEs_reps r1 r2 he, k F H _ .refl G (.bl _)⟩
    · rw [if_neg he] at e
      exact .inr (ops_ne ah F H hs hs' x y _ _ z Q G c d e k)
  · exact .inr (ops_ne ah F H hs hs' x y _ _ z Q G c d e k)
theorem opr_neE (hu : X.A.units + 64 < cLine) : OpR X (compareOp .NotEq) (fun x y H Q => rNeE X.K x y H Q ∨ (fun x y H Q => rNe x y H Q ∨ rNeD X.K x y H Q) x y H Q) := (op_neE hu).or (opr_ne hu)
end
end SL

end
section
/-! SMe: raise X(e), X with its own __init__ that keeps e; min, max of data -/
namespace SL
open PySem PySem.Spec PyProof.Rows L2 LamX NdefX
variable [Tbs]
/-! ### raise X(e) -/
/-- a def of a class's body -/
def clsDef (st : Stmt) (i : Nat) : Stmt := match st with
  | .ClassDef _ _ _ body _ _ _ _ _ _ _ => body.getD i (.Pass ⟨0, 0, 0, 0⟩)
  | _ => .Pass ⟨0, 0, 0, 0⟩
/-- self.f = y -/
def spInit (K : Fg) (f : Str) : Sp := fun vs H Q _ => ∃ (a C : Addr) (y : V), vs = [.ref a, y] ∧ OexC K C ∧ PySem.W.findIn K (.ref C) f = some none ∧ H a = some (exo a C none) ∧
  ∀ dx, H dx = none → dx ≠ a → Q .non (upd (upd H dx (exd dx [(f, y)])) a (exo a C (some dx)))
/-- x is a class of errors, its __init__(self, y) but stores y in f -/
def ExK1 (P : Program) (w : World) (K : Fg) (mg : Str → Option Value) (base : Heap) (x f : Str) (k : Nat) : Prop := ∃ (C fI : Addr) (fd : FuncData) (ps : List Str), mg x = some (.ref C) ∧ OexC K C ∧ PySem.W.findIn K (.ref C) f = some none ∧
  PySem.W.findIn K (.ref C) "__init__" = some (some (.ref fI)) ∧ PySem.W.typeIn K (.ref fI) = some (.type "function") ∧ L2.FnOk P w K mg base CX0 k fI fd ps (spInit K f) ∧ L2.Binds K fd ps []
theorem exk1_of {P : Program} {w : World} {K : Fg} {mg : Str → Option Value} {base : Heap} {x f qual p1 p2 : Str} {st : Stmt} {C fI : Addr} {fd : FuncData} {n1 n2 n3 s1 : Pos} (hm : mg x = some (.ref C)) (T : OexC K C) (hf : PySem.W.findIn K (.ref C) f = some none)
    (hi : PySem.W.findIn K (.ref C) "__init__" = some (some (.ref fI))) (ht : PySem.W.typeIn K (.ref fI) = some (.type "function")) (Fu : Fun K "__init__" qual st fI fd) (S : FnScope [p1, p2] [p1, p2] (defScope st)) (hb : L2.Binds K fd [p1, p2] [])
    (hd : defBody st = [.Assign [.Attribute (.Name p1 n1) f n2] (.Name p2 n3) s1])
    (h1 : Vis (defScope st) p1) (h2 : Vis (defScope st) p2) (hsw : ∀ env : Env, swapsWith (.Name p2 n3) (some (.Attribute (.Name p1 n1) f n2)) s1.line env = pure false)
    (d1 : (p1 == ("__debug__" : Str)) = false) (d2 : (p2 == ("__debug__" : Str)) = false) (c1 : (p1 == ("__classdict__" : Str)) = false) (c2 : (p2 == ("__classdict__" : Str)) = false) : ExK1 P w K mg base x f 1 := by
  refine ⟨C, fI, fd, [p1, p2], hm, T, hf, hi, ht, ?_, hb⟩
  refine Fu.ok (k := 0) S (fun vs H Q E h => ?_) fun cdv A outer s H vs Q E hr h => ⟨tOst K f (tVar 0) (tVar 1), ?_, ?_⟩
  · obtain ⟨a, C, y, rfl, _⟩ := h; rfl
  · rw [hd]
    exact pss_one (ps_ost (pe_var rfl h1 d1 c1) (pe_var rfl h2 d2 c2) (hsw _))
  · obtain ⟨a, C', y, rfl, T', hf', ha, k⟩ := h
    exact ⟨y, rfl, .ref a, rfl, a, C', rfl, T', hf', .inl ⟨ha, fun dx hn ne => k dx hn ne⟩⟩
def sRaise1 (c : Str) (gs : Ev → M (List PV)) : SM := fun ρ => do
  let xs ← gs ρ
  guardM (xs.length = 1) (pure (.ex c))
@[simp] theorem e_raise1 {c : Str} {gs : Ev → M (List PV)} {ρ : Ev} : sRaise1 c gs ρ = (gs ρ >>= fun xs => guardM (xs.length = 1) (pure (.ex c))) := rfl
theorem ss_raise1 {X : Cx} {W : EW} {k : Nat} {x f : Str} {e : Expr} {gs : Ev → M (List PV)} {p pos pos' : Pos} (hc : X.calm = true) (tk : Takes X (upW X.mg W)) (h : ExK1 X.prog X.w X.K X.mg X.base x f k) (hr : Room (k + 1) X.A) (ha : SA X [e] gs) (hg : Gl X x := by rfl) (hdb : (x == ("__debug__" : Str)) = false := by decide)
    (he : starEach [e] X.env = (false, eval e X.env) :: starEach [] X.env := by rfl) (hpl : (backTo pos (starEach [] X.env)).any (·.1) = false := by rfl) :
    SS X W (.Raise (some (.Call (.Name x p) [e] [] pos)) none pos') (sRaise1 x gs) := by
  obtain ⟨C, fI, fd, ps, hm, T, hf, hi, ht, F1, hb⟩ := h
  refine PS.wk (ps_raise hc tk (pmk_oex T hi ht F1 hr.rm hb .nil pass0 hg hm ha hdb he hpl)) fun D σ H ⟨ah, F0, H0, F, ρ, hs, out, hs', I, q, fin⟩ => ?_
  obtain ⟨xs, h1, q1, q⟩ := M.bind_ok q
  obtain ⟨hl, q⟩ := guard_ok q
  cases M.pure_ok q
  refine ⟨ah, F, _, ρ, hs, xs, _, I.gi, I.er, q1, fun F1 H1 vs x1 G1 r1 => ?_⟩
  have hl2 : vs.length = 1 := r1.length.trans hl
  refine ⟨by omega, fun a na => ?_⟩
  match vs, hl2 with
  | [y], _ =>
    refine ⟨a, C, y, rfl, T, hf, upd_same, fun dx hdx ne => ⟨rfl, dx, [(f, y)], upd_same, ?_, ?_, ?_⟩⟩
    · rw [upd_ne ne, upd_same]
    · rw [upd_ne ne] at hdx; exact hdx
    · rw [upd_ne ne] at hdx
      have e : upd (del (upd (upd (upd H1 a (exo a C none)) dx (exd dx [(f, y)])) a (exo a C (some dx))) a) dx (.xd [(f, y)]) = upd H1 dx (.xd [(f, y)]) := by
        funext b
        by_cases hb : b = dx
        · rw [hb, upd_same, upd_same]
        · rw [upd_ne hb, upd_ne hb]
          by_cases hb2 : b = a
          · rw [hb2, del_same]; exact na.symm
          · rw [del_ne hb2, upd_ne hb2, upd_ne hb, upd_ne hb2]
      rw [e]
      have x2 : Ext X.K ah F1 H1 F1 (upd H1 dx (.xd [(f, y)])) := .laid hdx
      have I1 := I.step x1 G1
      refine ⟨fun d' z => by cases z; exact ⟨_, upd_same⟩, x, hm, fin F1 _ ((I1.step x2 (G1.laid hdx)).ext) (G1.laid hdx)⟩
end SL

end
section
/-! SMf: min, max of data -/
namespace SL
open PySem PySem.Spec PyProof.Rows L2 LamX NdefX
def minIx (ds : List PyData) : Nat := argBest (fun i j => PySem.W.dataLt (ds.getD i .none) (ds.getD j .none)) (ds.length - 1)
def maxIx (ds : List PyData) : Nat := argBest (fun i j => PySem.W.dataLt (ds.getD j .none) (ds.getD i .none)) (ds.length - 1)
section
variable {prog : Program} {w : World} {A : Around} {E : Value → Shared → Prop} {s : Shared}
theorem min_listX {l : Addr} {us : Array Value} {ds : List PyData} {rs : List Addr} {Q : Value → Shared → Prop} (hh : A.handled = none) (hl : s.heap.IsList l us) (hr : ReadsAll s.heap us.toList ds rs) (ha : PySem.W.AlikeAll ds) (h0 : 0 < ds.length) (hu : A.units + 1 + PyData.depthAll ds < cLine)
    (h : ∀ v h' tk, us[minIx ds]? = some v → (∀ b o, s.heap.get? b = some o → h'.get? b = some o) → Q v { s with heap := h', toks := tk }) : wpAny (model prog w) A (call (.builtin "min") [.ref l]) Q E s := by
  have hn : us.size = ds.length := PySem.W.readsAll_len hr
  refine call_min_walkH (PySem.W.iter_listW (A := A.in1) hh hl fun s2 e9 W9 st9 hf9 hw9 hk9 => ⟨_, _, _, _, _, _, _, s.heap, (fun i j => PySem.W.dataLt (ds.getD i .none) (ds.getD j .none)), rfl, W9, st9, hf9, by omega, hw9, hk9, PySem.W.cmpIn_lt (A := A.in1) hr ha (by show A.units + 1 + _ < _; exact hu), fun v s3 hP m9 => ?_⟩)
  obtain ⟨h', tk, rfl, hk'⟩ := PySem.W.moved_old e9 rfl m9
  rw [hn] at hP
  exact h v h' tk hP hk'
theorem min_tupleX {l : Addr} {us : Array Value} {ds : List PyData} {rs : List Addr} {Q : Value → Shared → Prop} (hh : A.handled = none) (hl : s.heap.IsTuple l us) (hr : ReadsAll s.heap us.toList ds rs) (ha : PySem.W.AlikeAll ds) (h0 : 0 < ds.length) (hu : A.units + 1 + PyData.depthAll ds < cLine)
    (h : ∀ v h' tk, us[minIx ds]? = some v → (∀ b o, s.heap.get? b = some o → h'.get? b = some o) → Q v { s with heap := h', toks := tk }) : wpAny (model prog w) A (call (.builtin "min") [.ref l]) Q E s := by
  have hn : us.size = ds.length := PySem.W.readsAll_len hr
  refine call_min_walkH (PySem.W.iter_tupleW (A := A.in1) hh hl fun s2 e9 W9 st9 hf9 hw9 hk9 => ⟨_, _, _, _, _, _, _, s.heap, (fun i j => PySem.W.dataLt (ds.getD i .none) (ds.getD j .none)), rfl, W9, st9, hf9, by omega, hw9, hk9, PySem.W.cmpIn_lt (A := A.in1) hr ha (by show A.units + 1 + _ < _; exact hu), fun v s3 hP m9 => ?_⟩)
  obtain ⟨h', tk, rfl, hk'⟩ := PySem.W.moved_old e9 rfl m9
  rw [hn] at hP
  exact h v h' tk hP hk'
theorem max_listX {l : Addr} {us : Array Value} {ds : List PyData} {rs : List Addr} {Q : Value → Shared → Prop} (hh : A.handled = none) (hl : s.heap.IsList l us) (hr : ReadsAll s.heap us.toList ds rs) (ha : PySem.W.AlikeAll ds) (h0 : 0 < ds.length) (hu : A.units + 1 + PyData.depthAll ds < cLine)
    (h : ∀ v h' tk, us[maxIx ds]? = some v → (∀ b o, s.heap.get? b = some o → h'.get? b = some o) → Q v { s with heap := h', toks := tk }) : wpAny (model prog w) A (call (.builtin "max") [.ref l]) Q E s := by
  have hn : us.size = ds.length := PySem.W.readsAll_len hr
  refine call_max_walkH (PySem.W.iter_listW (A := A.in1) hh hl fun s2 e9 W9 st9 hf9 hw9 hk9 => ⟨_, _, _, _, _, _, _, s.heap, (fun i j => PySem.W.dataLt (ds.getD j .none) (ds.getD i .none)), rfl, W9, st9, hf9, by omega, hw9, hk9, PySem.W.cmpIn_gt (A := A.in1) hr ha (by show A.units + 1 + _ < _; exact hu), fun v s3 hP m9 => ?_⟩)
  obtain ⟨h', tk, rfl, hk'⟩ := PySem.W.moved_old e9 rfl m9
  rw [hn] at hP
  exact h v h' tk hP hk'
theorem max_tupleX {l : Addr} {us : Array Value} {ds : List PyData} {rs : List Addr} {Q : Value → Shared → Prop} (hh : A.handled = none) (hl : s.heap.IsTuple l us) (hr : ReadsAll s.heap us.toList ds rs) (ha : PySem.W.AlikeAll ds) (h0 : 0 < ds.length) (hu : A.units + 1 + PyData.depthAll ds < cLine)
    (h : ∀ v h' tk, us[maxIx ds]? = some v → (∀ b o, s.heap.get? b = some o → h'.get? b = some o) → Q v { s with heap := h', toks := tk }) : wpAny (model prog w) A (call (.builtin "max") [.ref l]) Q E s := by
  have hn : us.size = ds.length := PySem.W.readsAll_len hr
  refine call_max_walkH (PySem.W.iter_tupleW (A := A.in1) hh hl fun s2 e9 W9 st9 hf9 hw9 hk9 => ⟨_, _, _, _, _, _, _, s.heap, (fun i j => PySem.W.dataLt (ds.getD j .none) (ds.getD i .none)), rfl, W9, st9, hf9, by omega, hw9, hk9, PySem.W.cmpIn_gt (A := A.in1) hr ha (by show A.units + 1 + _ < _; exact hu), fun v s3 hP m9 => ?_⟩)
  obtain ⟨h', tk, rfl, hk'⟩ := PySem.W.moved_old e9 rfl m9
  rw [hn] at hP
  exact h v h' tk hP hk'
end
variable [Tbs]
section
variable {X : Cx}
/-- min(xs), data -/
def rMinD (K : Fg) : List V → Hp → VK → Prop := fun xs H Q => ∃ (a : Addr) (vs : List V) (ds : List PyData) (v : V), xs = [V.ref a] ∧ (SqL K H a vs ∨ SqT K H a vs) ∧ DpAll K H vs ds ∧ PySem.W.AlikeAll ds ∧ 0 < ds.length ∧ PyData.depthAll ds ≤ 32 ∧ vs[minIx ds]? = some v ∧ Q v H
theorem cr_minD (hu : X.A.units + 64 < cLine) (hc : X.calm = true) : CallR X (.builtin "min") (rMinD X.K) := by
  intro pins s σ H xs us Q I r h
  obtain ⟨a, vs, ds, v, rfl, hs, hd, hal, h0, hz, hv, q⟩ := h
  rw [Vals.ref1 r]
  rcases hs with hs | hs
  · obtain ⟨its, rv, hl, _⟩ := I.list hs
    obtain ⟨rs, hr⟩ := Dp.readsAll I ds vs its hd rv
    refine min_listX (us := its.toArray) (I.ok.hd hc) hl.isList (by simpa using hr) hal h0 (by omega) fun u h' tk hu' hk => ?_
    obtain ⟨u2, h2, r2⟩ := rv.get hv
    have : u = u2 := by
      rw [List.getElem?_toArray] at hu'
      exact Option.some.inj (hu'.symm.trans h2)
    rw [this]
    exact ⟨v, H, I.kept hk, r2, q⟩
  · obtain ⟨its, rv, hl, _⟩ := I.tuple hs
    obtain ⟨rs, hr⟩ := Dp.readsAll I ds vs its hd rv
    refine min_tupleX (us := its.toArray) (I.ok.hd hc) (show s.heap.IsTuple a its.toArray from hl) (by simpa using hr) hal h0 (by omega) fun u h' tk hu' hk => ?_
    obtain ⟨u2, h2, r2⟩ := rv.get hv
    have : u = u2 := by
      rw [List.getElem?_toArray] at hu'
      exact Option.some.inj (hu'.symm.trans h2)
    rw [this]
    exact ⟨v, H, I.kept hk, r2, q⟩
/-- max(xs), data -/
def rMaxD (K : Fg) : List V → Hp → VK → Prop := fun xs H Q => ∃ (a : Addr) (vs : List V) (ds : List PyData) (v : V), xs = [V.ref a] ∧ (SqL K H a vs ∨ SqT K H a vs) ∧ DpAll K H vs ds ∧ PySem.W.AlikeAll ds ∧ 0 < ds.length ∧ PyData.depthAll ds ≤ 32 ∧ vs[maxIx ds]? = some v ∧ Q v H
theorem cr_maxD (hu : X.A.units + 64 < cLine) (hc : X.calm = true) : CallR X (.builtin "max") (rMaxD X.K) := by
  intro pins s σ H xs us Q I r h
  obtain ⟨a, vs, ds, v, rfl, hs, hd, hal, h0, hz, hv, q⟩ := h
  rw [Vals.ref1 r]
  rcases hs with hs | hs
  · obtain ⟨its, rv, hl, _⟩ := I.list hs
    obtain ⟨rs, hr⟩ := Dp.readsAll I ds vs its hd rv
    refine max_listX (us := its.toArray) (I.ok.hd hc) hl.isList (by simpa using hr) hal h0 (by omega) fun u h' tk hu' hk => ?_
    obtain ⟨u2, h2, r2⟩ := rv.get hv
    have : u = u2 := by
      rw [List.getElem?_toArray] at hu'
      exact Option.some.inj (hu'.symm.trans h2)
    rw [this]
    exact ⟨v, H, I.kept hk, r2, q⟩
  · obtain ⟨its, rv, hl, _⟩ := I.tuple hs
    obtain ⟨rs, hr⟩ := Dp.readsAll I ds vs its hd rv
    refine max_tupleX (us := its.toArray) (I.ok.hd hc) (show s.heap.IsTuple a its.toArray from hl) (by simpa using hr) hal h0 (by omega) fun u h' tk hu' hk => ?_
    obtain ⟨u2, h2, r2⟩ := rv.get hv
    have : u = u2 := by
      rw [List.getElem?_toArray] at hu'
      exact Option.some.inj (hu'.symm.trans h2)
    rw [this]
    exact ⟨v, H, I.kept hk, r2, q⟩
end
/-! ### the mirror -/
def okMM (ds : List PyData) : Bool := alikeB ds && ds.all (fun d => match d with | .none => false | _ => true) && decide (PyData.depthAll ds ≤ 32)
def mmP (ix : List PyData → Nat) (l : List PV) : M PV := match toDs l with
  | some ds => guardM (okMM ds = true ∧ l.isEmpty = false) (liftO l[ix ds]?)
  | none => stuck
def mmQ (ix : List PyData → Nat) : List PV → M PV
  | [.tup l] => mmP ix l
  | [.lst l] => mmP ix l
  | _ => stuck
def pMinD : List PV → M PV := mmQ minIx
def pMaxD : List PV → M PV := mmQ maxIx
theorem okMM_ok {ds : List PyData} (h : okMM ds = true) : PySem.W.AlikeAll ds ∧ PyData.depthAll ds ≤ 32 := by
  unfold okMM at h
  simp only [Bool.and_eq_true, decide_eq_true_eq] at h
  refine ⟨⟨alikeB_ok h.1.1, fun d hd z => ?_⟩, h.2⟩
  have := List.all_eq_true.mp h.1.2 d hd
  rw [z] at this
  cases this
theorem cs_minD {X : Cx} : CallS X (rMinD X.K) pMinD := fun ah F H hs hs' xs ps z Q G c e k => by
  have main : ∀ {a : Addr} {vs : List V} {l : List PV}, (SqL X.K H a vs ∨ SqT X.K H a vs) → Reps X.K ah F H vs l → mmP minIx l hs = .ok (z, hs') → rMinD X.K [V.ref a] H Q := by
    intro a vs l hq r e
    unfold mmP at e
    cases e1 : toDs l with
    | none => rw [e1] at e; cases e
    | some ds =>
      rw [e1] at e
      obtain ⟨⟨h1, h2⟩, e⟩ := guard_ok e
      obtain ⟨e2, e3⟩ := M.lift_ok e
      cases e3
      obtain ⟨g1, g2⟩ := okMM_ok h1
      obtain ⟨v, hv, rv⟩ := r.get e2
      refine ⟨a, vs, ds, v, rfl, hq, toDs_rep r e1, g1, ?_, g2, hv, k F H v .refl G rv⟩
      rw [← toDs_len e1]
      cases l with
      | nil => cases h2
      | cons _ _ => exact Nat.succ_pos _
  unfold pMinD mmQ at e
  split at e
  · cases c with | cons c t => cases t; obtain ⟨a, vs, rfl, h, z, r⟩ := c.tup; exact main (.inr (.of h)) r e
  · cases c with | cons c t => cases t; obtain ⟨a, vs, rfl, h, z, r⟩ := c.lst; exact main (.inl (.of h)) r e
  · cases e
theorem cs_maxD {X : Cx} : CallS X (rMaxD X.K) pMaxD := fun ah F H hs hs' xs ps z Q G c e k => by
  have main : ∀ {a : Addr} {vs : List V} {l : List PV}, (SqL X.K H a vs ∨ SqT X.K H a vs) → Reps X.K ah F H vs l → mmP maxIx l hs = .ok (z, hs') → rMaxD X.K [V.ref a] H Q := by
    intro a vs l hq r e
    unfold mmP at e
    cases e1 : toDs l with
    | none => rw [e1] at e; cases e
    | some ds =>
      rw [e1] at e
      obtain ⟨⟨h1, h2⟩, e⟩ := guard_ok e
      obtain ⟨e2, e3⟩ := M.lift_ok e
      cases e3
      obtain ⟨g1, g2⟩ := okMM_ok h1
      obtain ⟨v, hv, rv⟩ := r.get e2
      refine ⟨a, vs, ds, v, rfl, hq, toDs_rep r e1, g1, ?_, g2, hv, k F H v .refl G rv⟩
      rw [← toDs_len e1]
      cases l with
      | nil => cases h2
      | cons _ _ => exact Nat.succ_pos _
  unfold pMaxD mmQ at e
  split at e
  · cases c with | cons c t => cases t; obtain ⟨a, vs, rfl, h, z, r⟩ := c.tup; exact main (.inr (.of h)) r e
  · cases c with | cons c t => cases t; obtain ⟨a, vs, rfl, h, z, r⟩ := c.lst; exact main (.inl (.of h)) r e
  · cases e
theorem se_minD {X : Cx} {e : Expr} {es : List Expr} {p pos : Pos} {gs : Ev → M (List PV)} (hu : X.A.units + 64 < cLine) (hm : X.mg "min" = none) (ha : SAB X (e :: es) gs) (hc : X.calm = true := by rfl) (hg : Gl X "min" := by rfl) (he : starEach (e :: es) X.env = (false, eval e X.env) :: starEach es X.env := by rfl) (hpl : (backTo pos (starEach es X.env)).any (·.1) = false := by rfl) :
    SE X (.Call (.Name "min" p) (e :: es) [] pos) (gB pMinD gs) := se_B cs_minD (pe_callB (cr_minD hu hc) hg hm (by decide +kernel) ha (by decide) (by decide) he hpl)
theorem se_maxD {X : Cx} {e : Expr} {es : List Expr} {p pos : Pos} {gs : Ev → M (List PV)} (hu : X.A.units + 64 < cLine) (hm : X.mg "max" = none) (ha : SAB X (e :: es) gs) (hc : X.calm = true := by rfl) (hg : Gl X "max" := by rfl) (he : starEach (e :: es) X.env = (false, eval e X.env) :: starEach es X.env := by rfl) (hpl : (backTo pos (starEach es X.env)).any (·.1) = false := by rfl) :
    SE X (.Call (.Name "max" p) (e :: es) [] pos) (gB pMaxD gs) := se_B cs_maxD (pe_callB (cr_maxD hu hc) hg hm (by decide +kernel) ha (by decide) (by decide) he hpl)
end SL

end
section
/-! SMg: the lambdas of a def's text; a class with an own __init__ -/
namespace SL
open PySem PySem.Spec PyProof.Rows L2 LamX NdefX
def lamsE : Nat → Expr → List (Arguments × Expr × Scope)
  | 0, _ => []
  | _ + 1, .Lambda a b s _ => [(a, b, s)]
  | n + 1, .Call _ es _ _ => es.flatMap (lamsE n)
  | n + 1, .Tuple es _ _ => es.flatMap (lamsE n)
  | n + 1, .List es _ => es.flatMap (lamsE n)
  | n + 1, .IfExp c a b _ => lamsE n c ++ lamsE n a ++ lamsE n b
  | n + 1, .BinOp a _ b _ => lamsE n a ++ lamsE n b
  | n + 1, .Subscript a _ _ => lamsE n a
  | _, _ => []
def lamsS : Stmt → List (Arguments × Expr × Scope)
  | .Return (some e) _ => lamsE 9 e
  | .Expr e _ => lamsE 9 e
  | .Assign _ e _ => lamsE 9 e
  | _ => []
/-- the i-th lambda of a def's own statements -/
def lamAt (q : Str) (st : Stmt) (i : Nat) : LD := match ((defBody st).flatMap lamsS)[i]? with
  | some (a, b, s) => ⟨(q ++ ".<locals>.") ++ "<lambda>", a, b, s⟩
  | none => ⟨q, defArgs st, .Constant .none 0 ⟨0, 0, 0, 0⟩, defScope st⟩
variable [Tbs]
/-- what the written part says of a class whose __init__ stores its argument in f -/
def oexB (K : Fg) (C : Addr) (f : Str) (fI : Addr) (bm : List Value) : Bool := PySem.HandSPX.refsVE bm && PySem.W.findIn K (.ref C) "__setattr__" == some (some (.builtin "object.__setattr__")) && PySem.W.subIn K (.ref C) (.type "BaseException") == some true &&
  PySem.W.typeIn K (.ref C) == some (.type "type") && PySem.W.keepIn K (.ref C) && PySem.W.findIn K (.ref C) f == some none && PySem.W.typeIn K (.ref fI) == some (.type "function")
/-- a class of errors with an own __init__ -/
structure CI (K : Fg) (mg : Str → Option Value) (x f qual : Str) (st : Stmt) (ps : List Str) : Prop where
  ex : ∃ (C fI : Addr) (fd : FuncData), mg x = some (.ref C) ∧ OexC K C ∧ PySem.W.findIn K (.ref C) f = some none ∧ PySem.W.findIn K (.ref C) "__init__" = some (some (.ref fI)) ∧ PySem.W.typeIn K (.ref fI) = some (.type "function") ∧ Fun K "__init__" qual st fI fd ∧ L2.Binds K fd ps []
theorem ci_mk {K : Fg} {mg : Str → Option Value} {x f qual : Str} {st : Stmt} {ps : List Str} {C fI : Addr} {fd : FuncData} {nm q : Str} {N : Addr} {bs bm : List Value} {sn : List Str} {sub : List Value} {ab : Bool} {col : Option Bool} {dd : Option Addr} {k0 k1 k2 k3 k5 : Option Value}
    (hm : mg x = some (.ref C)) (o : K.lookup C = some (excClassObj nm q C N bs bm true sn sub ab col dd k0 k1 k2 k3 k5 "ValueError.__new__")) (hi : PySem.W.findIn K (.ref C) "__init__" = some (some (.ref fI))) (h : oexB K C f fI bm = true) (Fu : Fun K "__init__" qual st fI fd) (b : L2.Binds K fd ps []) : CI K mg x f qual st ps := by
  unfold oexB at h
  simp only [Bool.and_eq_true, beq_iff_eq] at h
  obtain ⟨⟨⟨⟨⟨⟨h1, h2⟩, h3⟩, h4⟩, h5⟩, h6⟩, h7⟩ := h
  exact ⟨C, fI, fd, hm, ⟨⟨nm, q, N, bs, bm, sn, sub, ab, col, dd, k0, k1, k2, k3, k5, o, h1⟩, h2, h3, h4, h5⟩, h6, hi, h7, Fu, b⟩
theorem CI.k {P : Program} {w : World} {K : Fg} {mg : Str → Option Value} {base : Heap} {x f qual p1 p2 : Str} {st : Stmt} {n1 n2 n3 s1 : Pos} (c : CI K mg x f qual st [p1, p2]) (S : FnScope [p1, p2] [p1, p2] (defScope st)) (hd : defBody st = [.Assign [.Attribute (.Name p1 n1) f n2] (.Name p2 n3) s1])
    (h1 : Vis (defScope st) p1) (h2 : Vis (defScope st) p2) (hsw : ∀ env : Env, swapsWith (.Name p2 n3) (some (.Attribute (.Name p1 n1) f n2)) s1.line env = pure false)
    (d1 : (p1 == ("__debug__" : Str)) = false := by decide) (d2 : (p2 == ("__debug__" : Str)) = false := by decide) (c1 : (p1 == ("__classdict__" : Str)) = false := by decide) (c2 : (p2 == ("__classdict__" : Str)) = false := by decide) : ExK1 P w K mg base x f 1 := by
  obtain ⟨C, fI, fd, hm, T, hf, hi, ht, Fu, b⟩ := c.ex
  exact exk1_of hm T hf hi ht Fu S b hd h1 h2 hsw d1 d2 c1 c2
end SL

end
section
/-! SMh: word(lambda x=0: e) -/
namespace SL
open PySem PySem.Spec PyProof.Rows L2 LamX NdefX
variable [Tbs]
/-- a lambda whose own names are none of N -/
structure LamD (sc scope : Scope) (N : List Str) : Prop where
  kind : scope.kind = .function
  co : scope.isCoroutine = false
  gen : scope.isGenerator = false
  nocell : ∀ y ∈ scope.names, y.2 ≠ .cell
  apart : ∀ y ∈ scope.names, y.2 = .local → y.1 ∉ N
  free : ∀ y ∈ scope.names, y.2 = .free → sc.names.lookup y.1 = some .cell ∨ sc.names.lookup y.1 = some .free
def lamDB (sc scope : Scope) (N : List Str) : Bool := decide (scope.kind = .function) && !scope.isCoroutine && !scope.isGenerator && scope.names.all fun y => !decide (y.2 = .cell) && (!decide (y.2 = .local) || !decide (y.1 ∈ N)) && (!decide (y.2 = .free) || decide (sc.names.lookup y.1 = some .cell) || decide (sc.names.lookup y.1 = some .free))
theorem lamD_by {sc scope : Scope} {N : List Str} (h : lamDB sc scope N = true) : LamD sc scope N := by
  unfold lamDB at h
  simp only [Bool.and_eq_true, Bool.or_eq_true, Bool.not_eq_true', decide_eq_true_eq, decide_eq_false_iff_not, List.all_eq_true] at h
  obtain ⟨⟨⟨h1, h2⟩, h3⟩, h4⟩ := h
  refine ⟨h1, h2, h3, fun y hy => (h4 y hy).1.1, fun y hy e => (h4 y hy).1.2.elim (fun z => absurd e z) id, fun y hy e => ?_⟩
  rcases (h4 y hy).2 with (z | z) | z
  · exact absurd e z
  · exact .inl z
  · exact .inr z
theorem LamD.has {X : Cx} {scope : Scope} (L : LamD X.env.scope scope X.N) (ok : X.Ok) : ∀ y ∈ scope.names, y.2 = .free → ∃ c, X.env.cells.lookup y.1 = some c := fun y hy e => (L.free y hy e).elim (fun k => ok.has _ (.inl k)) fun k => ok.has _ (.inr k)
section
variable {X : Cx} {pins : List (Addr × Obj)} {σ : L2.St} {H HZ : Hp} {s s1 : Shared}
theorem lam_mkD {c P : Addr} {j : Nat} {dp : Pos} {params : Arguments} {body : Expr} {scope : Scope} {pos : Pos} {E : Value → Shared → Prop} {Q : Value → Shared → Prop} (I : Inv X pins σ H s) (TB : TabB X.base X.mg c P) (hcode : X.env.code = .ref c)
    (hm : (P, X.env.qual ++ "<lambda>") ∈ Tbs.tb) (hu : ∀ p ∈ Tbs.tb, p.1 = P → p.2 = X.env.qual ++ "<lambda>") (hT : Tabs Tbs.tb H) (hdf : params.defaults = [.Constant (.int 0) j dp]) (hk0 : params.kw_defaults = []) (hfree : ∀ y ∈ scope.names, y.2 = .free → ∃ c, X.env.cells.lookup y.1 = some c)
    (h : ∀ (f T0 c' : Addr) (t : Tok) (doc pm ctv : Value) (H1 : Hp) (s' : Shared), Inv X pins σ H1 s' → ExtT H H1 → Tabs Tbs.tb H1 →
      s'.heap.get? f = some (PySem.W.kdv_obj "<lambda>" (X.env.qual ++ "<lambda>") params (.expr body) scope (cloFrom X.env.cells scope.names []) (.ref T0) doc pm c' ctv) → s'.heap.get? T0 = some (PySem.W.kdv_tup [.int 0 t]) →
      H1 f = none → f ∉ frs X.stack → H1 T0 = none → T0 ∉ frs X.stack → H1 c' = some (CodeO c' (X.env.qual ++ "<lambda>")) → Q (.ref f) s') :
    wpAny (model X.prog X.w) X.A (eval (.Lambda params body scope pos) X.env) Q E s := by
  refine PySem.W.kdv_lam (by rw [hdf]; rfl) hk0 ?_
  rw [hdf]
  refine PySem.W.kdv_all1 (wpAny_Constant_int (PySem.W.kdv_all0 ?_))
  rw [makeFunction_eq]
  simp only [List.zip_nil_right, List.filterMap_nil, List.isEmpty_nil, List.isEmpty_cons, if_true, pure_bind, Bool.false_eq_true, if_false]
  refine wpAny_bind (wpAny_newTextTuple ?_)
  have I2 : Inv X pins σ H { s with heap := s.heap.push (PySem.W.kdv_tup [.int 0 s.toks]), toks := s.toks + 1 } := I.kept (t' := s.toks + 1) fun b o e => Heap.get?_push_of_some _ e
  have hT0 : (s.heap.push (PySem.W.kdv_tup [.int 0 s.toks])).get? s.heap.objs.size = some (PySem.W.kdv_tup [.int 0 s.toks]) := Heap.get?_push_size _ rfl
  have nT0 : H s.heap.objs.size = none := I.hok.fresh (Nat.le_refl _)
  have szT : s.heap.objs.size < (s.heap.push (PySem.W.kdv_tup [.int 0 s.toks])).objs.size := by rw [Heap.size_push]; exact Nat.lt_succ_self _
  generalize hS : ({ s with heap := s.heap.push (PySem.W.kdv_tup [.int 0 s.toks]), toks := s.toks + 1 } : Shared) = sB at I2
  have hB : sB.heap = s.heap.push (PySem.W.kdv_tup [.int 0 s.toks]) := by rw [← hS]
  rw [← hB] at hT0 szT
  obtain ⟨ps, hP, ht, ha⟩ := hT _ hm
  have bP : sB.heap.BuiltinsAt X.mg P := TB.bm.keeps I2.bk
  have hP' : sB.heap.get? P = some { cls := .none, data := .fields ps } := I2.hok P _ hP
  have nofr : ∀ f, s.heap.objs.size ≤ f → f ∉ frs X.stack := fun f hf z => (List.mem_cons.mp (I.stkSub _ z)).elim (fun e => by
    have h1 := I.lt
    rw [← e] at h1; exact Nat.lt_irrefl _ (Nat.lt_of_lt_of_le h1 hf)) fun e => I.nofs hf e
  have nPT : P ≠ s.heap.objs.size := ne_of_none hP nT0
  show wpAny _ _ (makeTail "<lambda>" (X.env.qual ++ "<lambda>") params (.expr body) scope X.env (.ref s.heap.objs.size) .none none pos pos.line) _ _ _
  cases hc : codeAmong pos ps.toList with
  | none =>
    refine PySem.W.kdv_makeTail (mg := X.mg) (c := c) (P := P) (ps := ps) (closure_ok hfree) I2.ok.glob (I2.mod.glob.keeps I2.bk) hcode (TB.code.keeps I2.bk) hP' ht hc TB.gP bP fun c' ctv doc h' tk hx hge hlt hrec htb => ?_
    obtain ⟨c2, oc, vs, t, e2, hoc, hd, hv⟩ := hrec
    cases e2
    have hsz : sB.heap.objs.size ≤ h'.objs.size := Nat.le_trans hge (Nat.le_of_lt hlt)
    have nC : H c' = none := I2.hok.fresh hge
    have nTc : s.heap.objs.size ≠ c' := Nat.ne_of_lt (Nat.lt_of_lt_of_le szT hge)
    generalize hO : PySem.W.kdv_obj "<lambda>" (X.env.qual ++ "<lambda>") params (.expr body) scope (cloFrom X.env.cells scope.names []) (.ref s.heap.objs.size) doc ((X.mg "__name__").getD .none) c' ctv = oF
    have I1 := inv_table (t' := tk) (more := #[rawInt pos.line, rawInt pos.col, .ref c']) (h' := h'.push oF) I2 hP (fun b o hb e => Heap.get?_push_of_some _ (hx b o hb e)) (Heap.get?_push_of_some _ htb) hge ⟨oc, vs, t, Heap.get?_push_of_some _ hoc, hd, hv⟩
    have e1 : ExtT H (upd (upd H P (.tbl (ps ++ #[rawInt pos.line, rawInt pos.col, .ref c']))) c' (CodeO c' (X.env.qual ++ "<lambda>"))) := by
      constructor
      · intro b o n e
        rw [upd_ne (ne_of_none e nC), upd_ne (fun z => n ps (Option.some.inj (e.symm.trans (by rw [z]; exact hP))))]; exact e
      · intro b qs e
        rw [upd_ne (ne_of_none e nC)]
        by_cases hb : b = P
        · subst hb; rw [hP] at e; cases e; exact ⟨_, upd_same⟩
        · rw [upd_ne hb]; exact tbl_same e
    have eL : (ps ++ #[rawInt pos.line, rawInt pos.col, .ref c']).toList = ps.toList ++ [rawInt pos.line, rawInt pos.col, .ref c'] := by simp
    refine h h'.objs.size s.heap.objs.size c' s.toks doc ((X.mg "__name__").getD .none) ctv _ _ I1 e1 (fun p hp => ?_) ?_ ?_ ?_ (nofr _ (Nat.le_trans (Nat.le_of_lt szT) hsz)) ?_ (nofr _ (Nat.le_refl _)) upd_same
    · by_cases hb : p.1 = P
      · rw [hu p hp hb, hb]
        refine ⟨_, by rw [upd_ne (ne_of_none hP nC), upd_same], by rw [eL]; exact PySem.TriplesOk_snoc _ _ _ _ ht, fun p' cv hcv => ?_⟩
        rw [eL] at hcv
        rcases among_app _ ht hcv with z | z
        · obtain ⟨c0, e1', e2⟩ := ha p' cv z; exact ⟨c0, e1', e1.keep _ _ (fun _ z => codeO_ne _ z) e2⟩
        · exact ⟨c', z, upd_same⟩
      · obtain ⟨ps', a1, a2, a3⟩ := hT p hp
        exact ⟨ps', by rw [upd_ne (ne_of_none a1 nC), upd_ne hb]; exact a1, a2, fun p' cv hcv => by obtain ⟨c0, e1', e2⟩ := a3 p' cv hcv; exact ⟨c0, e1', e1.keep _ _ (fun _ z => codeO_ne _ z) e2⟩⟩
    · rw [← hO]; exact Heap.get?_push_size _ rfl
    · exact Heap.get?_push_of_some _ (hx _ _ nPT.symm hT0)
    · have n1 : h'.objs.size ≠ c' := Nat.ne_of_gt hlt
      have n2 : h'.objs.size ≠ P := Nat.ne_of_gt (Nat.lt_of_lt_of_le (Heap.lt_size hP') hsz)
      rw [upd_ne n1, upd_ne n2]; exact I2.hok.fresh hsz
    · rw [upd_ne nTc, upd_ne nPT.symm]; exact nT0
  | some cv =>
    obtain ⟨c', e, hco⟩ := ha pos cv hc
    subst e
    refine PySem.W.kdv_makeTailHit (mg := X.mg) (c := c) (P := P) (ps := ps) (closure_ok hfree) I2.ok.glob (I2.mod.glob.keeps I2.bk) hcode (TB.code.keeps I2.bk) hP' ht hc bP fun ctv doc h' tk hx hsz => ?_
    generalize hO : PySem.W.kdv_obj "<lambda>" (X.env.qual ++ "<lambda>") params (.expr body) scope (cloFrom X.env.cells scope.names []) (.ref s.heap.objs.size) doc ((X.mg "__name__").getD .none) c' ctv = oF
    have I1 : Inv X pins σ H { sB with heap := h'.push oF, toks := tk } := I2.kept fun b o e => Heap.get?_push_of_some _ (hx b o e)
    subst hO
    refine h h'.objs.size s.heap.objs.size c' s.toks doc ((X.mg "__name__").getD .none) ctv H _ I1 ⟨fun _ _ _ e => e, fun _ _ e => tbl_same e⟩ hT ?_ (Heap.get?_push_of_some _ (hx _ _ hT0)) (I2.hok.fresh hsz) (nofr _ (Nat.le_trans (Nat.le_of_lt szT) hsz)) nT0 (nofr _ (Nat.le_refl _)) hco
    exact Heap.get?_push_size _ rfl
theorem lam_startD {A : Around} {outer : List Env} {E : XK} {scope : Scope} {f c' : Addr} {hN : Heap} {tk : Nat} {mm : Str → Option Value} (I : Inv X pins σ H s) (L : LamD X.env.scope scope X.N) (e0 : Env0 X.prog X.w X.K X.mg X.base A outer s1 HZ) (hd : A.handled = none) (un : Un (frs X.stack) [] H HZ s.heap s1.heap) (hns : hN.Ns s1.heap.objs.size mm) (kp : ∀ b o, s1.heap.get? b = some o → hN.get? b = some o) :
    Inv (lamCx X A outer s1 HZ E scope f c') [] σ HZ { s1 with heap := hN, toks := tk } := by
  have hF := L.has I.ok
  have cM : ∀ {y c}, (cloFrom X.env.cells scope.names []).lookup y = some c → X.env.cells.lookup y = some c := fun {y c} e => (cloFrom_mem (PySem.mem_of_lookup e)).elim (fun hm => by cases hm) fun ⟨h1, h2⟩ => by
    obtain ⟨cA, hA⟩ := hF _ h1 rfl
    have hA : X.env.cells.lookup y = some cA := hA
    have eA : c = cA := by rw [h2, hA] <;> rfl
    rw [eA]; exact hA
  have lk : ∀ {y}, scope.names.lookup y = some .free → ∃ c, (cloFrom X.env.cells scope.names []).lookup y = some c := fun {y} hl => mem_lookup (cloFrom_has (cells := X.env.cells) (acc := []) (show (y, NameKind.free) ∈ scope.names from PySem.mem_of_lookup hl))
  have cK : ∀ {c : Addr} {v : Option Value}, H c = none → s.heap.IsCell c v → hN.IsCell c v := fun {c v} n ⟨o, ho, hdo⟩ => (un.any ho n (by simp)).elim fun sl q => ⟨_, kp _ _ q, hdo⟩
  have noA : ∀ b : Addr, b ∉ (lamCx X A outer s1 HZ E scope f c').ex := fun b z => absurd (show b ∈ ([] : List Addr) from z) (by simp)
  refine ⟨⟨e0.mod, L.kind, rfl, rfl, Nat.le_refl _, fun y z c e1 e2 => I.ok.inj y z c (cM e1) (cM e2), fun y hy => ?_, fun y c z _ => (nomatch (show false = true from z)), fun _ => hd, Around.frames_deeper e0.frames, .inr ⟨rfl, rfl⟩, fun b z => absurd z (noA b), e0.bs, e0.bsz, fun b _ _ => noA b, fun b z => absurd z (noA b), e0.funs, e0.frf⟩,
    rfl, e0.bare, Un.kept kp, ⟨_, hns, fun i y v e1 e2 e3 => ?_⟩, fun y c e => ?_, e0.hok.fresh (Nat.le_refl _), fun y c e => ?_, fun q hq => absurd (show q ∈ ([] : List (Addr × Obj)) ++ [] from hq) (by simp), e0.hok.kept kp, I.len⟩
  · have hy : scope.names.lookup y = some .cell ∨ scope.names.lookup y = some .free := hy
    exact hy.elim (fun hy => absurd rfl (L.nocell _ (PySem.mem_of_lookup hy))) lk
  · have e3 : Vis scope y := e3
    have e1 : X.N[i]? = some y := e1
    rcases e3 with k | k | k
    · exact absurd (List.mem_of_getElem? e1) (L.apart _ (PySem.mem_of_lookup k) rfl)
    · exact absurd rfl (L.nocell _ (PySem.mem_of_lookup k))
    · obtain ⟨m, hn, hl⟩ := I.loc
      obtain ⟨w', r, q⟩ := hl i y v e1 e2 ((L.free _ (PySem.mem_of_lookup k) rfl).elim (fun k => .inr (.inl k)) (fun k => .inr (.inr k)))
      obtain ⟨cB, h2⟩ := lk k
      refine ⟨w', r, .inr ⟨.inr k, cB, h2, ?_⟩⟩
      rcases q with ⟨k', _⟩ | ⟨_, cC, e', z⟩
      · have k' : X.env.scope.names.lookup y = some .local := k'
        rcases L.free _ (PySem.mem_of_lookup k) rfl with k2 | k2 <;> rw [show X.env.scope.names.lookup y = _ from k2] at k' <;> cases k'
      · rw [cM h2] at e'; cases e'; exact cK (I.freeC y _ (cM h2)) z
  · obtain ⟨w', z⟩ := I.cell y c (cM e)
    exact ⟨w', cK (I.freeC y c (cM e)) z⟩
  · obtain ⟨v, o, ho, hdo⟩ := I.cell y c (cM e)
    exact un.free c o ho (I.freeC y c (cM e)) (by simp)
theorem actD {CXg : CXT} {Eg : XK} {Ng : List Str} {qg : Str} {sg : Scope} {g f c' T0 : Addr} {cdg doc pm ctv : Value} {tT : Tok} {bs : List (Str × Value)} {params : Arguments} {body : Expr} {scope : Scope} {k i : Nat} {a : Str} {pn : List (Addr × Obj)} {xe : Value → Shared → Prop} {W : WX} {E : XK} {tb : TE} {p1 p2 : Pos}
    (I : Inv X pins σ H s) (L : LamD X.env.scope scope X.N) (hf : s.heap.get? f = some (PySem.W.kdv_obj "<lambda>" (X.env.qual ++ "<lambda>") params (.expr body) scope (cloFrom X.env.cells scope.names []) (.ref T0) doc pm c' ctv)) (hfn : H f = none) (hfr : f ∉ frs X.stack)
    (hT0 : s.heap.get? T0 = some (PySem.W.kdv_tup [.int 0 tT])) (hTn : H T0 = none) (hTr : T0 ∉ frs X.stack) (hloc : ∀ y ∈ bs, scope.names.lookup y.1 = some .local)
    (hbind : ∀ s' : Shared, s'.heap.get? T0 = some (PySem.W.kdv_tup [.int 0 tT]) → BindsTo s' (PySem.W.kdv_fn "<lambda>" (X.env.qual ++ "<lambda>") params (.expr body) scope (cloFrom X.env.cells scope.names []) (.ref T0) doc pm (.ref c') ctv) ⟨[], []⟩ bs)
    (tk : Takes ((cxOf CXg X.prog X.w X.K X.mg X.base Ng qg sg g cdg X.A X.stack s H Eg).tr pn xe) W) (hr : Room (k + 1) (X.A.deeper (envOfC qg sg s.heap.objs.size g cdg)))
    (hbody : ∀ (A : Around) (outer : List Env) (s : Shared) (H : Hp), Room k (A.deeper (lamEnv X scope s.heap.objs.size f c')) → PE (lamCx X A outer s H E scope f c') body tb)
    (hN : Ng[i]? = some a) (hv : Vis sg a) (hd : (a == ("__debug__" : Str)) = false := by decide) (hcd : (a == ("__classdict__" : Str)) = false := by decide) :
    PE ((cxOf CXg X.prog X.w X.K X.mg X.base Ng qg sg g cdg X.A X.stack s H Eg).tr pn xe) (.Call (.Name a p1) [] [] p2)
      (fun σZ HZ Q => (∀ cls d H', E cls d H' → W cls d σZ H') ∧ σZ[i]? = some (some (.ref f)) ∧ HZ c' = some (CodeO c' (X.env.qual ++ "<lambda>")) ∧ tb σ HZ Q) := by
  refine ⟨fun pinsZ sZ σZ HZ Q IZ ⟨hW, hs, hc, ht⟩ => ?_⟩
  refine wpAny_Call_Name_kw (thn ((pe_var (pos := p1) (i := i) hN hv hd hcd).run pinsZ sZ σZ HZ (fun v H1 => v = .ref f ∧ H1 = HZ) IZ ⟨.ref f, hs, rfl, rfl⟩) fun u s1 ⟨v, H1, I1, r1, ev, eH⟩ => ?_)
  subst ev; rw [eH] at I1
  obtain rfl : u = Value.ref f := r1
  have of1 := I1.base.keep f _ hf hfn hfr (fun z => nomatch (show f ∈ ([] : List Addr) from z))
  have oT1 := I1.base.keep T0 _ hT0 hTn hTr (fun z => nomatch (show T0 ∈ ([] : List Addr) from z))
  refine PySem.W.callWith_F0 ⟨_, _, _, _, of1⟩ ?_
  have uB : Un (frs X.stack) [] H HZ s.heap s1.heap := I1.base
  obtain ⟨⟨oc, vs, t, hoc, hdc, hvc⟩, _, _⟩ := I1.hok c' _ hc
  have rc : codeAny (model X.prog X.w) (X.A.deeper (envOfC qg sg s.heap.objs.size g cdg)) (.call (.ref f) ⟨[], []⟩) (CR (L2.CX X.prog X.w) (envOfC qg sg s.heap.objs.size g cdg :: X.stack) X.prog X.w HZ s1 Q E) s1 := by
    refine PySem.W.kla_callFunE hr.depth of1 rfl L.co L.gen rfl ⟨c', oc, vs, t, rfl, hoc, hdc, hvc⟩ (hbind s1 oT1 _ _ _ _ ?_)
    refine wpAny_newFunctionEnv L.nocell hloc (fun hN hns hsb => ⟨I1.nolimit.fresh _ hsb, ?_⟩) L.kind
    show codeAny _ _ (.expr body (lamEnv X scope s1.heap.objs.size f c')) _ _
    have J := lam_startD (E := E) (f := f) (c' := c') (tk := s1.toks + bs.length) I L I1.env0 hr.hd uB hns fun b o e => hsb.extBut b o (Nat.ne_of_lt (Heap.lt_size e)) (Heap.get?_push_of_some _ e)
    exact PySem.W.kla_codeExpr (wpAny_mono ((hbody _ _ s1 HZ (hr.deeper _)).run [] _ _ HZ Q J ht) (fun v s' ⟨w', H', J', rv, q⟩ => ⟨w', H', J'.os, J'.bare, J'.base, J'.hok, rv, q⟩) fun e s' hq => hq)
  refine wpAny_call (codeAny_mono rc fun r s' hq => ?_)
  match r, hq with
  | .error e, hq => exact tk e s' (XE.of_call I1 (fun cls d H' h => hW cls d H' h) hq)
  | .ok (.ret u), hq => exact I1.after hq
  | .ok .next, hq => exact False.elim hq
  | .ok .brk, hq => exact False.elim hq
  | .ok .cont, hq => exact False.elim hq
end
theorem se_wordD {X : Cx} {x : Str} {k j : Nat} {wm : PE' → M PV} {c P : Addr} {params : Arguments} {body : Expr} {scope : Scope} {g : EX} {p lpos pos dp : Pos} {an : Str} (hW : WordK X.prog X.w X.K X.mg X.base x (k + 1) wm)
    (TB : TabB X.base X.mg c P) (hcode : X.env.code = .ref c) (hmT : (P, X.env.qual ++ "<lambda>") ∈ Tbs.tb) (hu : ∀ p ∈ Tbs.tb, p.1 = P → p.2 = X.env.qual ++ "<lambda>") (hr : Room (k + 2) X.A) (L : LamD X.env.scope scope X.N) (hdf : params.defaults = [.Constant (.int 0) j dp]) (hk0 : params.kw_defaults = [])
    (hloc : scope.names.lookup an = some .local)
    (hbind : ∀ (q : Str) (cl : List (Str × Addr)) (T0 : Addr) (t : Tok) (doc pm cv ctv : Value) (s' : Shared), s'.heap.get? T0 = some (PySem.W.kdv_tup [.int 0 t]) → BindsTo s' (PySem.W.kdv_fn "<lambda>" q params (.expr body) scope cl (.ref T0) doc pm cv ctv) ⟨[], []⟩ [(an, .int 0 t)])
    (hbody : ∀ (A : Around) (outer : List Env) (s : Shared) (H : Hp) (E : XK) (f c' : Addr) (W : EW), Room k (A.deeper (lamEnv X scope s.heap.objs.size f c')) → Takes (lamCx X A outer s H E scope f c') (upW X.mg W) → SX (lamCx X A outer s H E scope f c') W body g)
    (hg : Gl X x := by rfl) (hdb : (x == ("__debug__" : Str)) = false := by decide) :
    SE X (.Call (.Name x p) [.Lambda params body scope lpos] [] pos) (gWord wm g) := by
  obtain ⟨ga, a, Ng, pg, bg, sg, dV, kV, doc, pm, cdv, ct, oc, ab, od, osl, hm, hk, lk, hcg, hb, Sg, hNg, hva, hd, hcd, hG⟩ := hW
  refine ⟨fun pins s σ H Q I ⟨ah, F, N, ρ, hs, p, hs', G, E, q, kk⟩ => ?_⟩
  obtain ⟨r, h1, q1, q2⟩ := M.bind_ok q
  refine wpAny_Call_Name_kw (ld_glob I hg hm (PySem.W.callWith_K (h₀ := X.base) I.ok.mod.kin hk ?_ (by rfl) (by rfl)) hdb)
  show wpAny _ _ (spliced ((false, eval (.Lambda params body scope lpos) X.env) :: backTo pos (starEach [] X.env))) _ _ s
  refine Calls.spliced_cons (lam_mkD I TB hcode hmT hu G.tabs hdf hk0 (L.has I.ok) fun f T0 c' t doc' pm' ctv H1 s' I1 e1 T1 hf hT0 hfn hfr hTn hTr hco => Calls.spliced_nil ⟨I1.kIn, ?_⟩)
  have G1 := e1.gi G T1
  have rc : codeAny (model X.prog X.w) X.A (.call (.ref ga) ⟨[.ref f], []⟩) (CR C8.CX0 X.stack X.prog X.w H1 s' Q C8.E0) s' := by
    refine run_ofS (N := Ng) (ps := [a]) (us := [.ref f]) (vs := [.ref f]) lk hcg Sg hr.rm I1.env0 (hb s' [.ref f] I1.kIn rfl) (.cons rfl .nil) rfl fun _ => ?_
    have hr' := hr.deeper (envOfC x sg s'.heap.objs.size ga cdv)
    obtain ⟨t', ht', hq'⟩ := hG X.A X.stack f c' _ s' H1 Q (fun E H' Q' => tLX X.K X.mg g E σ H' Q') hr' (fun W pn xe E p1 p2 tk => actD (i := 0) I1 L hf hfn hfr hT0 hTn hTr (fun y hy => by
        obtain rfl : y = (an, .int 0 t) := by simpa using hy
        exact hloc) (hbind _ _ _ _ _ _ _ _) tk hr' (fun A outer s H hr2 => tLX_body fun W tk => hbody A outer s H E f c' W hr2 tk) hNg hva hd hcd) hco
      ⟨ah, F, hs, r, h1, p, hs', G1, fun E' Q' hh => ⟨ah, F, N, ρ, hs, r, h1, G1, E.ext G e1.ext, q1, by cases r <;> exact hh⟩, q2, fun F' H' v x' G' r' => kk F' H' v (e1.ext.trans G G1 x') G' r'⟩
    exact ⟨t', ht'.nox, hq'⟩
  refine wpAny_call (codeAny_mono rc fun r s2 hq => ?_)
  match r, hq with
  | .error e, hq => exact (show False from hq).elim
  | .ok (.ret u), hq => exact I1.after hq
  | .ok .next, hq => exact False.elim hq
  | .ok .brk, hq => exact False.elim hq
  | .ok .cont, hq => exact False.elim hq
/-! isinstance(error, ValueError) -/
/-- each of cs is a class below ValueError -/
def ErrV (K : Fg) (mg : Str → Option Value) (cs : List Str) : Prop := ∀ c ∈ cs, ∀ C, mg c = some (.ref C) → PySem.W.kitOne K (.ref C) (.type "ValueError") = some true
def valB (K : Fg) (cs : List (Str × Addr)) : Bool := cs.all fun c => PySem.W.kitOne K (.ref c.2) (.type "ValueError") == some true
theorem errV_of {K : Fg} {mg : Str → Option Value} {cs : List (Str × Addr)} {ds : List Str} (hm : ∀ c ∈ cs, mg c.1 = some (.ref c.2)) (h : valB K cs = true) (sub : ∀ c ∈ ds, c ∈ cs.map (·.1)) : ErrV K mg ds := by
  intro x hx C hC
  obtain ⟨c, hc, rfl⟩ := List.mem_map.mp (sub x hx)
  rw [hm c hc] at hC
  cases hC
  unfold valB at h
  exact beq_iff_eq.mp (List.all_eq_true.mp h c hc)
theorem se_isV {X : Cx} {a : Addr} {d : Option Addr} {cls : Value} {oe : Obj} {pn : List (Addr × Obj)} {cs : List Str} {c e : Str} (R : ErrK X.K X.mg cs e) (RV : ErrV X.K X.mg cs) (hc : c ∈ cs) (hcm : X.mg c = some cls) (hz : Zc cls d oe) (hf : ∃ vs, oe.data = .fields vs) (i : Nat) {x : Str} {p p1 p2 pos : Pos}
    (hN : X.N[i]? = some x) (hv : Vis X.env.scope x) (hmv : X.mg "ValueError" = none) (hm : X.mg "isinstance" = none)
    (hg : Gl X "isinstance" := by rfl) (hgy : Gl X "ValueError" := by rfl) (hdx : (x == ("__debug__" : Str)) = false := by decide) (hcx : (x == ("__classdict__" : Str)) = false := by decide) :
    SE (X.suite a ((a, oe) :: pn)) (.Call (.Name "isinstance" p) [.Name x p1, .Name "ValueError" p2] [] pos) (gIsE i a d true) := by
  obtain ⟨D, hD, EC⟩ := R.ex c hc
  have hk := RV c hc D hD
  rw [hD] at hcm
  cases hcm
  have hV : PE (X.suite a ((a, oe) :: pn)) (.Name "ValueError" p2) (tC (.ty "ValueError")) := pe_bltn hgy hmv (u := .type "ValueError") (by decide +kernel) rfl
  have hx : PE (X.suite a ((a, oe) :: pn)) (.Name x p1) (tVar i) := pe_var hN hv hdx hcx
  refine PE.wk (pe_callB (call_isX EC hz hf) hg hm (by decide +kernel) (pa_cons hx (pa_cons hV pa_nil rfl) rfl)) fun σ H Q ⟨ah, F, N, ρ, hs, r, hs', G, E, q, kk⟩ => ?_
  obtain ⟨e, q⟩ := guard_ok q
  cases M.pure_ok q
  obtain ⟨v, ev, rv⟩ := E.get (excAt_some e)
  have hu : ∀ u, RelV (.ty "ValueError") u → u = .type "ValueError" := fun u r => r
  cases d with
  | none => cases rv; exact ⟨_, ev, .ty "ValueError", .type "ValueError", true, rfl, hu, hk, xdNone, kk F H _ .refl G (.bl true)⟩
  | some dx =>
    cases rv with
    | exd hd => exact ⟨_, ev, .ty "ValueError", .type "ValueError", true, rfl, hu, hk, fun dx' z => by cases z; exact ⟨_, hd⟩, kk F H _ .refl G (.bl true)⟩
end SL

end
section
/-! SMi: list(range(e)) -/
namespace SL
open PySem PySem.Spec PyProof.Rows L2 LamX NdefX
variable [Tbs]
def pLRg : List PV → M PV
  | [.int j] => guardM (-(2 ^ 62) ≤ j ∧ j ≤ SZ) (pure (.lst (rng 0 j.toNat)))
  | _ => stuck
theorem reps_rng {K : Fg} {ah : Ax} {F : Addr → Prop} {H : Hp} : ∀ (n : Nat) (f : Nat → Int) , Reps K ah F H ((List.range n).map fun i => V.int (f i)) ((List.range n).map fun i => PV.int (f i))
  | 0, _ => .nil
  | n + 1, f => by
    rw [List.range_succ_eq_map, List.map_cons, List.map_cons, List.map_map, List.map_map]
    exact .cons (.int _) (reps_rng n fun i => f (i + 1))
theorem sf_lrange {X : Cx} {a : Expr} {g : EM} {p p2 pos pos2 : Pos} (hl : X.mg "list" = none) (hm : X.mg "range" = none) (ha : SE X a g) (hc : X.calm = true := by rfl) (hg : Gl X "list" := by rfl) (hr : Gl X "range" := by rfl) (na : starEach [a] X.env = (false, eval a X.env) :: starEach [] X.env := by rfl)
    (nb : starEach [Expr.Call (.Name "range" p) [a] [] pos] X.env = (false, eval (Expr.Call (.Name "range" p) [a] [] pos) X.env) :: starEach [] X.env := by rfl) :
    SF X (.Call (.Name "list" p2) [.Call (.Name "range" p) [a] [] pos] [] pos2) (gB pLRg (gCons g gNil)) := PE.wk (pe_listRg hc hg hl (prg_1 hr hm ha na) nb) fun σ H Q ⟨ah, F, N, ρ, hs, r, hs', G, E, q, kk⟩ => by
  obtain ⟨xs, h1, q1, q⟩ := M.bind_ok q
  obtain ⟨x, h2, q2, q1⟩ := M.bind_ok q1
  obtain ⟨ys, h3, q3, q1⟩ := M.bind_ok q1
  cases M.pure_ok q3
  cases M.pure_ok q1
  obtain ⟨j, rfl⟩ : ∃ j, x = .int j := by cases x <;> first | exact ⟨_, rfl⟩ | (cases q; done)
  obtain ⟨⟨b1, b2⟩, q⟩ := guard_ok q
  cases M.pure_ok q
  have hS : (SZ : Int) = 16777216 := rfl
  refine ⟨ah, F, N, ρ, hs, _, _, G, E, q2, fun F1 H1 v x1 G1 r1 => ?_⟩
  cases r1
  refine ⟨_, rfl, ⟨by omega, by omega, b1, by omega, by omega⟩, fun l n => new_lst (vs := rgV 0 j) (ps := rng 0 j.toNat) G1 n (by rw [rgV_length, szE]; show _ ≤ 16777216; omega) ?_ fun F2 H2 b x2 G2 n2 nf o => kk F2 H2 b (x1.trans G G1 x2) G2 (x1.free G n2 (G1.ne n2)) nf o⟩
  have e : (j - 0).toNat = j.toNat := by rw [Int.sub_zero]
  unfold rgV rng
  rw [e]
  exact reps_rng _ _
end SL

end
section
/-! SMj: xs[::-1] -/
namespace SL
open PySem PySem.Spec PyProof.Rows L2 LamX NdefX
variable [Tbs]
section
variable {X : Cx} {e st : Expr} {te : TE} {ts : TO} {pos p2 : Pos}
/-- the list's items, the last first -/
def rRev (K : Fg) : V → Hp → VK → Prop := fun x H Q => ∃ a xs, x = .ref a ∧ SqL K H a xs ∧ ∀ p, H p = none → Q (.ref p) (upd H p (.lst xs.reverse))
def tRev (K : Fg) (te : TE) (ts : TO) : TE := fun σ H Q => te σ H fun x H1 => ts σ H1 fun o H2 => o = some (-1) ∧ rRev K x H2 Q
theorem pe_rev (he : PE X e te) (hst : PO X (some st) ts) : PE X (.Subscript e (.Slice none none (some st) p2) pos) (tRev X.K te ts) := by
  refine ⟨fun pins s σ H Q I h => ?_⟩
  refine Subscript_ (thn (he.run pins s σ H _ I h) fun v s1 ⟨x, H1, I1, r1, q1⟩ => ?_)
  refine wpAny_Slice ?_
  rw [evalPart_none]
  refine wpAny_pure (wpAny_pure ?_)
  refine thn (hst.run pins s1 σ H1 _ I1 q1) fun vk s2 ⟨o, H2, I2, pk, eo, q2⟩ => ?_
  subst eo
  obtain ⟨a, xs, rfl, hx, q⟩ := q2
  cases r1
  have I3 : Inv X pins σ H2 { s2 with heap := s2.heap.push { cls := .type "slice", data := .fields #[.none, .none, vk] } } := I2.kept (t' := s2.toks) fun b ob q => Heap.get?_push_of_some _ q
  obtain ⟨its, r, ht, hz⟩ := I3.list hx
  refine tail_any (ops := [.ref a, .ref s2.heap.objs.size]) ht.isList.typeIs slot_list_getitem.lookup ?_ (by with_unfolding_all rfl)
  refine wpAny_getItem_list_slice ht.isList (Heap.IsSliceOf.new ..) .none .none pk (by decide) ?_ (by rw [List.size_toArray, ← r.length]; exact hz)
  rw [PySem.W.krv_pick]
  refine ⟨.ref _, _, I3.laid (t' := s2.toks) (o := .lst xs.reverse) (fun b ob q => Heap.get?_push_of_some _ q) (Nat.le_refl _) ?_, rfl, q _ (I3.hok.fresh (Nat.le_refl _))⟩
  exact ⟨by rw [List.length_reverse]; exact hz, _, 0, r.reverse, Heap.get?_push_size _ rfl⟩
def pRev : PV → M PV
  | .lst l => pure (.lst l.reverse)
  | _ => stuck
def gRev (g : EM) (go : OM) : EM := fun ρ => do
  let x ← g ρ
  let o ← go ρ
  guardM (o = some (-1)) (pRev x)
theorem sf_rev {g : EM} {go : OM} (he : SB X e g) (hst : SO X (some st) go) : SF X (.Subscript e (.Slice none none (some st) p2) pos) (gRev g go) := PE.wk (pe_rev he hst) fun σ H Q ⟨ah, F, N, ρ, hs, p, hs', G, E, q, k⟩ => by
  obtain ⟨x, h1, q1, q⟩ := M.bind_ok q
  obtain ⟨o, h2, q2, q⟩ := M.bind_ok q
  obtain ⟨eo, q⟩ := guard_ok q
  refine ⟨ah, F, N, ρ, hs, x, h1, G, E, q1, fun F1 H1 v1 x1 G1 r1 => ?_⟩
  have E1 := E.ext G x1
  refine ⟨ah, F1, N, ρ, h1, o, h2, G1, E1, q2, fun F2 H2 x2 G2 => ⟨eo, ?_⟩⟩
  have E2 := E1.ext G1 x2
  have c := (r1.ext G1 x2).con E2
  cases x <;> first | (cases q; done) | skip
  cases M.pure_ok q
  obtain ⟨a, vs, rfl, h, z, r⟩ := c.lst
  have x12 := x1.trans G G1 x2
  exact ⟨a, vs, rfl, .of h, fun l n => new_lst G2 n (by rw [List.length_reverse]; exact z) r.reverse fun F3 H3 b x3 G3 n3 nf o3 => k F3 H3 b (x12.trans G G2 x3) G3 (x12.free G n3 (G2.ne n3)) nf o3⟩
end
end SL

end
section
/-! SMk: min(a, b) of two data -/
namespace SL
open PySem PySem.Spec PyProof.Rows L2 LamX NdefX
section
variable {prog : Program} {w : World} {A : Around} {E : Value → Shared → Prop} {s : Shared}
theorem min_pairX {a b : Value} {d1 d2 : PyData} {rs : List Addr} {Q : Value → Shared → Prop} (hh : A.handled = none) (hr : ReadsAll s.heap [a, b] [d1, d2] rs) (ha : PySem.W.AlikeAll [d1, d2]) (hu : A.units + PyData.depthAll [d1, d2] + 8 < cLine)
    (h : ∀ v h' tk, [a, b][minIx [d1, d2]]? = some v → (∀ b o, s.heap.get? b = some o → h'.get? b = some o) → Q v { s with heap := h', toks := tk }) : wpAny (model prog w) A (call (.builtin "min") [a, b]) Q E s := by
  have nm : (toString "min" ++ toString ".loop" : String) = "min.loop" := by decide
  have hT : (s.heap.push { cls := .type "tuple", data := .seq #[a, b] }).IsTuple s.heap.objs.size #[a, b] := ⟨_, Heap.get?_push_size _ rfl, rfl, 0, rfl⟩
  have hr' : ReadsAll ({ s with heap := s.heap.push { cls := .type "tuple", data := .seq #[a, b] } } : Shared).heap (#[a, b] : Array Value).toList [d1, d2] rs := by
    refine ReadsAll.keeps (fun b o e => ?_) hr
    exact Heap.get?_push_of_some _ e
  refine call_function_tree F.kind_min F.plain_min F.entry_min (F.args_min2 a b) (show wpAny _ A.in1 (Builtin.Builtins.bindParams "min" ["key", "default"] 0 ⟨[], []⟩ >>= _) _ _ s from wpAny_bind (wpAny_of_eq (show Builtin.Builtins.bindParams "min" ["key", "default"] 0 ⟨[], []⟩ = pure [none, none] from rfl) ?_))
  show wpAny _ A.in1 (newTuple [a, b] >>= _) _ _ s
  refine wpAny_bind (wpAny_newObj_type (wpAny_bind (PySem.W.iter_tupleW (A := A.in1) (s := { s with heap := s.heap.push { cls := .type "tuple", data := .seq #[a, b] } }) hh hT fun s2 e9 W9 st9 hf9 hw9 hk9 => ?_)))
  have nS := fun hm => Nat.lt_irrefl _ (hf9 s2.heap.objs.size hm)
  refine wpAny_bind (wpAny_newObj_type ?_)
  rw [nm]
  refine wpAny_pure ⟨plainId_quiet F.plain_min_loop _, codeAny_min_loop_firstH W9 _ hw9 (fun i j => PySem.W.dataLt ([d1, d2].getD i .none) ([d1, d2].getD j .none)) (PySem.W.cmpIn_lt (A := A.in1) hr' ha (by show A.units + 1 + _ < _; omega)) s2.heap.objs.size nS (fresh_in hk9) _ (by simp) (fun b o e => Heap.get?_push_of_some _ (hk9 b o e)) (W9.frame 0 s2 _ s2.toks st9 (Nat.le_refl _) fun b _ o e => Heap.get?_push_of_some _ e) (Heap.get?_push_size _ rfl) fun v s3 hP m9 => ?_⟩
  have m8 := Moved.drop_new (tk := s2.toks) m9 (Nat.le_refl _)
  obtain ⟨h', tk, rfl, hk'⟩ := PySem.W.moved_old e9 rfl m8
  exact h v h' tk (by simpa [minIx] using hP) fun b o e => hk' b o (Heap.get?_push_of_some _ e)
end
variable [Tbs]
/-- min(x, y), data -/
def rMin2D (K : Fg) : List V → Hp → VK → Prop := fun xs H Q => ∃ (x y : V) (d1 d2 : PyData), xs = [x, y] ∧ Dp K H x d1 ∧ Dp K H y d2 ∧ PySem.W.AlikeAll [d1, d2] ∧ PyData.depthAll [d1, d2] ≤ 32 ∧ Q (if PySem.W.dataLt d2 d1 = true then y else x) H
theorem cr_min2D {X : Cx} (hu : X.A.units + 64 < cLine) (hc : X.calm = true) : CallR X (.builtin "min") (rMin2D X.K) := by
  intro pins s σ H xs us Q I r h
  obtain ⟨x, y, d1, d2, rfl, h1, h2, ha, hz, q⟩ := h
  obtain ⟨u1, u2, rfl, r1, r2⟩ := vals2 r
  obtain ⟨rs, hr⟩ := Dp.readsAll I [d1, d2] [x, y] [u1, u2] (.cons h1 (.cons h2 .nil)) r
  refine min_pairX (I.ok.hd hc) hr ha (by omega) fun v h' tk hv hk => ⟨_, H, I.kept hk, ?_, q⟩
  have e : minIx [d1, d2] = if PySem.W.dataLt d2 d1 = true then 1 else 0 := rfl
  rw [e] at hv
  by_cases c : PySem.W.dataLt d2 d1 = true
  · rw [if_pos c] at hv ⊢
    cases hv
    exact r2
  · rw [if_neg c] at hv ⊢
    cases hv
    exact r1
/-! the mirror -/
def pMin2D : List PV → M PV
  | [.tup l, .tup m] => match toD (.tup l), toD (.tup m) with
    | some d1, some d2 => guardM (okMM [d1, d2] = true) (pure (if PySem.W.dataLt d2 d1 = true then .tup m else .tup l))
    | _, _ => stuck
  | _ => stuck
theorem con_tup {K : Fg} {ah : Ax} {F : Addr → Prop} {H : Hp} {v : V} {l : List PV} (c : Con K ah F H v (.tup l)) : Rep K ah F H v (.tup l) := by
  cases c with
  | rep r => exact r
  | own o => cases o
theorem cs_min2D {X : Cx} : CallS X (rMin2D X.K) pMin2D := fun ah F H hs hs' xs ps z Q G c e k => by
  unfold pMin2D at e
  split at e
  · rename_i l m
    cases c with
    | cons c1 c =>
      cases c with
      | cons c2 c =>
        cases c
        cases e1 : toD (.tup l) with
        | none => rw [e1] at e; cases e
        | some d1 =>
          cases e2 : toD (.tup m) with
          | none => rw [e1, e2] at e; cases e
          | some d2 =>
            rw [e1, e2] at e
            obtain ⟨g, e⟩ := guard_ok e
            cases M.pure_ok e
            obtain ⟨g1, g2⟩ := okMM_ok g
            refine ⟨_, _, d1, d2, rfl, toD_con c1 e1, toD_con c2 e2, g1, g2, k F H _ .refl G ?_⟩
            by_cases b : PySem.W.dataLt d2 d1 = true
            · rw [if_pos b, if_pos b]; exact con_tup c2
            · rw [if_neg b, if_neg b]; exact con_tup c1
  · cases e
theorem se_min2D {X : Cx} {e : Expr} {es : List Expr} {p pos : Pos} {gs : Ev → M (List PV)} (hu : X.A.units + 64 < cLine) (hm : X.mg "min" = none) (ha : SAB X (e :: es) gs) (hc : X.calm = true := by rfl) (hg : Gl X "min" := by rfl) (he : starEach (e :: es) X.env = (false, eval e X.env) :: starEach es X.env := by rfl) (hpl : (backTo pos (starEach es X.env)).any (·.1) = false := by rfl) :
    SE X (.Call (.Name "min" p) (e :: es) [] pos) (gB pMin2D gs) := se_B cs_min2D (pe_callB (cr_min2D hu hc) hg hm (by decide +kernel) ha (by decide) (by decide) he hpl)
end SL

end
section
/-! SMl: {k: v for target in iter if ..}, keys ints or texts -/
namespace SL
open PySem PySem.Spec PyProof.Rows L2 LamX NdefX
variable [Tbs]
def dcF (gt : GM) (tt : TM) (gk gv : EM) (ρ : Ev) : List (Key × PV) → List PV → M (List (Key × PV))
  | acc, [] => pure acc
  | acc, p :: ps => do
    let ρ1 ← gt p ρ
    let b ← tt ρ1
    if b = true then (do
      let y ← gk ρ1
      let z ← gv ρ1
      let k ← liftO (keyP y)
      dcF gt tt gk gv ρ (dPut acc k z) ps) else dcF gt tt gk gv ρ acc ps
def gDc (gi : IM) (gt : GM) (tt : TM) (gk gv : EM) (vs : List Nat) : EM := fun ρ => do
  let ps ← gi ρ
  let r ← dcF gt tt gk gv (wipeE ρ vs) [] ps
  pure (.dK r)
theorem dc_w {K : Fg} {gi : IM} {gt : GM} {tt : TM} {gk gv : EM} {is vs : List Nat} (hv : ∀ i ∈ is, i ∈ vs) (σ : L2.St) (H : Hp) (Q : VK) (h : tSF K (gDc gi gt tt gk gv vs) σ H Q) : tDc (tSI K gi) (tSG K gt is) (tST K tt) (tS K gk) (tS K gv) vs σ H Q := by
  obtain ⟨ah, F, N, ρ, hs, p, hs', G, E, q, k⟩ := h
  obtain ⟨ps, h1, q1, q⟩ := M.bind_ok q
  obtain ⟨r, h2, q2, q⟩ := M.bind_ok q
  cases M.pure_ok q
  refine ⟨ah, F, N, ρ, hs, ps, h1, G, E, q1, fun F1 H1 J x1 G1 I1 zl D nD => ?_⟩
  have Ea := E.ext G x1
  have nA : ah.hd ≠ some D := G1.ne nD
  refine ⟨fun i m H2 => m = ps.length - i ∧ i ≤ ps.length ∧ ∃ F2 hs2 acc accP, Ext K ah F1 H1 F2 H2 ∧ GI K ah F2 H2 hs2 ∧ ¬ F2 D ∧ H2 D = some (.dK acc) ∧ acc.length ≤ i ∧ acc.map (·.1) = accP.map (·.1) ∧ Reps K ah F2 H2 (acc.map (·.2)) (accP.map (·.2)) ∧ dcF gt tt gk gv (wipeE ρ vs) accP (ps.drop i) hs2 = .ok (r, hs'),
    ⟨ps.length, by simp, Nat.zero_le _, F1, h1, [], [], .laid nD, G1.laid nD, G1.nf nD, upd_same, Nat.le_refl _, rfl, .nil, q2⟩, ?_⟩
  rintro i m H2 ⟨rfl, hi, F2, hs2, acc, accP, x2, G2, nf, hD, ha, hk, rA, q⟩
  have kp := G1.kp x2
  by_cases hlt : i < ps.length
  · refine .inr ⟨I1.goes i F2 H2 kp hlt, fun H3 => ∃ m', m' < ps.length - i ∧ m' = ps.length - (i + 1) ∧ i + 1 ≤ ps.length ∧ ∃ F2 hs2 acc accP, Ext K ah F1 H1 F2 H3 ∧ GI K ah F2 H3 hs2 ∧ ¬ F2 D ∧ H3 D = some (.dK acc) ∧ acc.length ≤ i + 1 ∧ acc.map (·.1) = accP.map (·.1) ∧ Reps K ah F2 H3 (acc.map (·.2)) (accP.map (·.2)) ∧ dcF gt tt gk gv (wipeE ρ vs) accP (ps.drop (i + 1)) hs2 = .ok (r, hs'), fun H3 z => z, fun x H3 y => ?_⟩
    obtain ⟨p, hp, x3, G3, rx⟩ := I1.yields i F2 H2 hs2 x H3 kp G2 hlt y
    have ed : ps.drop i = p :: ps.drop (i + 1) := by
      rw [List.drop_eq_getElem_cons hlt]; rw [List.getElem?_eq_getElem hlt] at hp; rw [Option.some.inj hp]
    rw [ed] at q
    obtain ⟨ρ1, h3, q3, qa⟩ := M.bind_ok q
    clear q
    have x13 := x2.trans G1 G2 x3
    have Ew : ER K ah F2 H3 N (L2.wipe σ vs) (wipeE ρ vs) := (Ea.ext G1 x13).wipe vs
    refine ⟨ah, F2, N, _, hs2, p, ρ1, h3, G3, Ew, rx, q3, fun σ' E' w e => ⟨(w vs hv).trans (wipe_wipe σ vs), ?_⟩⟩
    subst e
    obtain ⟨b, h4, q4, q⟩ := M.bind_ok qa
    clear qa
    refine ⟨ah, F2, N, ρ1, _, b, h4, G3, E', q4, fun F4 H4 x4 G4 => ?_⟩
    have x14 := x13.trans G1 G3 x4
    have hD4 : H4 D = some (.dK acc) := x4.keep _ _ nA (fun _ z => by cases z) (x3.keep _ _ nA (fun _ z => by cases z) hD)
    have nf4 : ¬ F4 D := fun z => (x4.new _ z).elim nf fun z => by rw [x3.keep _ _ nA (fun _ z => by cases z) hD] at z; cases z
    have rA4 := (rA.mono (G2.kp x3)).mono (G3.kp x4)
    cases b with
    | false =>
      rw [if_neg Bool.false_ne_true] at q
      exact iteF ⟨_, by omega, rfl, hlt, F4, h4, acc, accP, x14, G4, nf4, hD4, by omega, hk, rA4, q⟩
    | true =>
      rw [if_pos rfl] at q
      refine iteT ?_
      obtain ⟨y, h5, q5, q⟩ := M.bind_ok q
      obtain ⟨z, h6, q6, q⟩ := M.bind_ok q
      obtain ⟨kk, h7, q7, q8⟩ := M.bind_ok q
      clear q
      obtain ⟨ek, e7⟩ := M.lift_ok q7
      cases e7
      refine ⟨ah, F4, N, ρ1, h4, y, h5, G4, E'.ext G3 x4, q5, fun F5 H5 v x5 G5 r5 => ?_⟩
      have Eb := (E'.ext G3 x4).ext G4 x5
      refine ⟨ah, F5, N, ρ1, h5, z, _, G5, Eb, q6, fun F6 H6 u x6 G6 r6 => ?_⟩
      have x45 := x5.trans G4 G5 x6
      have hD6 : H6 D = some (.dK acc) := x45.keep _ _ nA (fun _ z => by cases z) hD4
      have nf6 : ¬ F6 D := fun z => (x45.new _ z).elim nf4 fun z => by rw [hD4] at z; cases z
      have rA6 := rA4.mono (G4.kp x45)
      have hz : acc.length < sizeLine := by omega
      have x16 := x14.trans G1 G4 x45
      obtain ⟨p1, p2⟩ := put_rel (k := kk) hk rA6 r6
      have kl := length_putK acc kk u
      refine ⟨acc, kk, keyP_con (.rep r5) ek, hD6, hz, _, by omega, rfl, hlt, F6, _, putK acc kk u, dPut accP kk z, ⟨x16.mono, x16.new, fun a u n t h => ?_, fun a ps h => ?tb⟩, G6.ownO hD6 trivial nf6 nA, nf6, upd_same, by omega, p1, ?_, q8⟩
      case tb =>
        rw [upd_ne (ne_of_none h nD)]; exact x16.tbl a ps h
      · rw [upd_ne (ne_of_none h nD)]; exact x16.keep a u n t h
      · exact p2.mono (.ownO hD6 trivial nf6)
  · have e : i = ps.length := by omega
    subst e
    rw [List.drop_length] at q
    cases M.pure_ok q
    exact .inl ⟨I1.stops F2 H2 kp, k F2 H2 D (x1.trans G G1 x2) G2 (x1.free G nD nA) nf (.dK hD (Nat.le_trans ha zl) hk rA)⟩
section
variable {X : Cx} {kx vx tg iter : Expr} {ifs : List Expr} {scope : Scope} {own : List (Str × Nat)} {pos : Pos} {gi : IM} {gt : GM} {tt : TM} {gk gv : EM} {is : List Nat}
theorem sf_dc (hN : X.N.Nodup) (ok : BlkOk X.N X.env.scope scope own) (hi : SI X tg iter gi)
    (hg : ∀ (s : Shared) (H : Hp) (C : Addr) (cl : List (Str × Addr)) (fp : List Addr), SG (X.blk s H scope (compEnvC scope cl C X.env) fp) tg gt is) (ht : ∀ (s : Shared) (H : Hp) (C : Addr) (cl : List (Str × Addr)) (fp : List Addr), STs (X.blk s H scope (compEnvC scope cl C X.env) fp) ifs tt)
    (hk : ∀ (s : Shared) (H : Hp) (C : Addr) (cl : List (Str × Addr)) (fp : List Addr), SE (X.blk s H scope (compEnvC scope cl C X.env) fp) kx gk) (he : ∀ (s : Shared) (H : Hp) (C : Addr) (cl : List (Str × Addr)) (fp : List Addr), SE (X.blk s H scope (compEnvC scope cl C X.env) fp) vx gv)
    (hc : X.calm = true := by rfl) (hv : ∀ i ∈ is, i ∈ own.map (·.2) := by decide) (hs : ∀ x, foldedSetIterable iter X.env x = pure x := by intro _; rfl) :
    SF X (.DictComp kx vx [⟨tg, iter, ifs, 0⟩] scope pos) (gDc gi gt tt gk gv (own.map (·.2))) := PE.wk (pe_dc hc hN hi ok hg ht hk he hs) (dc_w hv)
end
end SL

end
section
/-! SMm: repr of plain data -/
namespace SL
open PySem PySem.Spec PyProof.Rows L2 LamX NdefX
variable [Tbs]
def okR (d : PyData) : Bool := d.showable && !d.hasDict && decide (d.depth ≤ 32) && decide (d.shown.length ≤ sizeLine)
def rRepr (K : Fg) : List V → Hp → VK → Prop := fun xs H Q => ∃ (x : V) (d : PyData), xs = [x] ∧ Dp K H x d ∧ okR d = true ∧ Q (.str d.shown) H
theorem cr_repr {X : Cx} {k : Nat} (hr : Room k X.A) : CallR X (.builtin "repr") (rRepr X.K) := by
  intro pins s σ H xs us Q I r h
  obtain ⟨x, d, rfl, h1, ho, q⟩ := h
  obtain ⟨u, rfl, r1⟩ := vals1 r
  unfold okR at ho
  simp only [Bool.and_eq_true, Bool.not_eq_true', decide_eq_true_eq] at ho
  obtain ⟨⟨⟨g1, g2⟩, g3⟩, g4⟩ := ho
  obtain ⟨as, hR⟩ := Dp.reads I d x u h1 r1
  have hu := hr.rm.un
  have fin : ∀ h' tk u, (∀ b o, s.heap.get? b = some o → h'.get? b = some o) → EP X pins σ Q (.str d.shown u) { s with heap := h', toks := tk } := fun h' tk u hk => ⟨.str d.shown, H, I.kept hk, ⟨_, rfl⟩, q⟩
  cases hR with
  | none => exact PySem.P.repr_of_none (fin _ _ _ fun _ _ e => e)
  | bool => exact PySem.P.repr_of_bool (fin _ _ _ fun _ _ e => e)
  | int => exact PySem.P.repr_of_int (by simpa [PyData.showable] using g1) (fin _ _ _ fun _ _ e => e)
  | str => exact PySem.P.repr_of_str (fin _ _ _ fun _ _ e => e) g4
  | list a b c e => exact repr_of_reads' (.list a b c e) g1 (PyData.noDict_hsm g2) hr.gd (by omega) (fun _ _ e => e) (fun h' u tk hk => fin h' tk u hk) g4
  | tuple a b c e => exact repr_of_reads' (.tuple a b c e) g1 (PyData.noDict_hsm g2) hr.gd (by omega) (fun _ _ e => e) (fun h' u tk hk => fin h' tk u hk) g4
  | dict a b c e f => simp only [PyData.hasDict] at g2; cases g2
/-! the mirror -/
def pRepr : List PV → M PV
  | [p] => match toD p with
    | some d => guardM (okR d = true) (pure (.str d.shown))
    | none => stuck
  | _ => stuck
theorem cs_repr {X : Cx} : CallS X (rRepr X.K) pRepr := fun ah F H hs hs' xs ps z Q G c e k => by
  unfold pRepr at e
  split at e
  · rename_i p
    cases c with
    | cons c1 c =>
      cases c
      cases e1 : toD p with
      | none => rw [e1] at e; cases e
      | some d =>
        rw [e1] at e
        obtain ⟨g, e⟩ := guard_ok e
        cases M.pure_ok e
        exact ⟨_, d, rfl, toD_con c1 e1, g, k F H _ .refl G (.str _)⟩
  · cases e
theorem se_repr {X : Cx} {k : Nat} {e : Expr} {es : List Expr} {p pos : Pos} {gs : Ev → M (List PV)} (hr : Room k X.A) (hm : X.mg "repr" = none) (ha : SAB X (e :: es) gs) (hg : Gl X "repr" := by rfl) (he : starEach (e :: es) X.env = (false, eval e X.env) :: starEach es X.env := by rfl) (hpl : (backTo pos (starEach es X.env)).any (·.1) = false := by rfl) :
    SE X (.Call (.Name "repr" p) (e :: es) [] pos) (gB pRepr gs) := se_B cs_repr (pe_callB (cr_repr hr) hg hm (by decide +kernel) ha (by decide) (by decide) he hpl)
end SL

end
section
/-! SMn: the law's end, by SL.FnOk -/
namespace SL
open PySem PySem.Spec PyProof.Rows L2 LamX
/-- the heap that the law's def sees: the tables, and the script where K does not hold it -/
noncomputable def hp0 (ts : List Addr) (a : Addr) (b : Bool) (o : Obj) (xs : List V) : Hp := fun c => if b = true ∧ c = a then some (.frz o (.lst xs)) else if c ∈ ts then some (.tbl #[]) else none
theorem law_callG {P : Program} {w : World} {K : Fg} {mg mb : Str → Option Value} {CX : CXT} {k : Nat} {fa a : Addr} {cs : List (Addr × Addr)} {fd : FuncData} {x : Str} {sp : Sp} {s₁ : Shared} {vs : List Value} {ns : List Int}
    (KX : K.In s₁.heap) (hns : s₁.heap.Ns mainGlobals mg) (hb : s₁.heap.Ns builtinsNs mb) (hbb : ∀ x : Str, x ≠ "__name__" → mb x = bootBuiltins x) (hlim : s₁.heap.NoLimit) (hg : s₁.gens = #[])
    (hT : ∀ p ∈ cs, s₁.heap.get? p.2 = some { cls := .none, data := .fields #[] }) (nT : ∀ p ∈ cs, K.lookup p.2 = none) (C : ∀ p ∈ cs, PySem.W.CodeHd s₁.heap p.1 p.2)
    (hbm : ∃ (bm : Addr) (ob : Obj), mg "__builtins__" = some (.ref bm) ∧ bm ≠ builtinsNs ∧ s₁.heap.get? bm = some ob ∧ ob.cls = .type "module" ∧ ob.dict = some builtinsNs ∧ ob.data = .plain)
    (ha : s₁.heap.get? a = some { cls := .type "list", data := .seq vs.toArray }) (hi : IntsAre vs ns) (hl : ns.length ≤ sizeLine) (hr : Room k callerA)
    (F : ∀ base : Heap, K.In base → base.Ns mainGlobals mg → (∀ p ∈ cs, TabB base mg p.1 p.2) → FnOk P w K mg base CX k fa fd [x] sp) (hbind : ∀ (s : Shared) (u : Value), BindsTo s fd ⟨[u], []⟩ [(x, u)])
    (hsp : ∀ H : Hp, (∀ p ∈ cs, H p.2 = some (.tbl #[])) → SqL K H a (ns.map V.int) → sp [.ref a] H (fun v _ => v = .bl true) fun _ _ _ => False)
    (hCX : ∀ H e s', CX [] H s₁ (fun _ _ _ => False) e s' → False) :
    codeAny (model P w) callerA (.call (.ref fa) ⟨[.ref a], []⟩) (fun r s' => r = .ok (.ret (.bool true)) ∧ OldK s₁.heap s'.heap ∧ s'.os = s₁.os ∧ AllBare s'.gens) s₁ := by
  have rv := vals_ints hi
  have memT : ∀ p ∈ cs, p.2 ∈ cs.map (·.2) := fun p hp => List.mem_map.mpr ⟨p, hp, rfl⟩
  have isT : ∀ b, b ∈ cs.map (·.2) → s₁.heap.get? b = some { cls := .none, data := .fields #[] } := fun b hb => by
    obtain ⟨p, hp, rfl⟩ := List.mem_map.mp hb
    exact hT p hp
  have aT : a ∉ cs.map (·.2) := fun z => by
    have q := (isT a z).symm.trans ha
    have z' : Data.fields #[] = Data.seq vs.toArray _ := congrArg Obj.data (Option.some.inj q)
    cases z'
  have core : ∀ H : Hp, (∀ p ∈ cs, H p.2 = some (.tbl #[])) → (∀ b, H b = none ∨ b ∈ cs.map (·.2) ∨ ∃ o xs, H b = some (.frz o (.lst xs))) → SqL K H a (ns.map V.int) → HOk P w H s₁.heap → (∀ b, H b ≠ none → b = a ∨ b ∈ cs.map (·.2)) → (H a ≠ none → K.lookup a = none) →
      codeAny (model P w) callerA (.call (.ref fa) ⟨[.ref a], []⟩) (fun r s' => r = .ok (.ret (.bool true)) ∧ OldK s₁.heap s'.heap ∧ s'.os = s₁.os ∧ AllBare s'.gens) s₁ := by
    intro H hH hO hS hok hA hK
    -- what is no script and no table stands in the base
    have off : ∀ {b : Addr} {o : Obj}, s₁.heap.get? b = some o → (∀ vs n, o.data ≠ .seq vs n) → o.data ≠ .fields #[] → (hidT s₁.heap H).get? b = some o := fun {b o} e h1 h2 => hidT_get e (by
      cases q : H b with
      | none => rfl
      | some u =>
        rcases hA b (by rw [q]; simp) with rfl | e'
        · rw [ha] at e
          cases e
          exact (h1 _ _ rfl).elim
        · rw [isT b e'] at e
          cases e
          exact (h2 rfl).elim)
    have nsK : ∀ {b : Addr} {m : Str → Option Value}, s₁.heap.Ns b m → (hidT s₁.heap H).Ns b m := fun {b m} ⟨o, es, ep, e, d, r⟩ => ⟨o, es, ep, off e (fun vs n z => by rw [d] at z; cases z) (fun z => by rw [d] at z; cases z), d, r⟩
    have hKb : K.In (hidT s₁.heap H) := fun b o e => hidT_get (KX b o e) (by
      cases q : H b with
      | none => rfl
      | some u =>
        rcases hA b (by rw [q]; simp) with rfl | e'
        · rw [hK (by rw [q]; simp)] at e
          cases e
        · obtain ⟨p, hp, rfl⟩ := List.mem_map.mp e'
          rw [nT p hp] at e
          cases e)
    have hM : L2.Mod K mg (hidT s₁.heap H) := ⟨hKb, nsK hns, ⟨mb, nsK hb, hbb⟩, hlim.imp fun mc h => ⟨nsK h.1, h.2⟩⟩
    have TB : ∀ p ∈ cs, TabB (hidT s₁.heap H) mg p.1 p.2 := fun p hp => by
      refine ⟨?_, ?_, fun z => ?_⟩
      · obtain ⟨o, us, file, tf, flags, tg, inF, text, tt, e1, r1, r2, r3, rest⟩ := C p hp
        refine ⟨o, us, file, tf, flags, tg, inF, text, tt, off e1 (fun vs n z => by rw [r2] at z; cases z) (fun z => ?_), r1, r2, r3, rest⟩
        rw [r2] at z
        cases z
        simp at r3
      · obtain ⟨bm, ob, b1, b2, b3, b4, b5, b6⟩ := hbm
        refine ⟨bm, ob, b1, b2, fun q => ?_, fun q => ?_, off b3 (fun vs n z => by rw [b6] at z; cases z) (fun z => by rw [b6] at z; cases z), b4, b5, b6⟩
        · obtain ⟨o, es, ep, e, hd, _⟩ := hns
          rw [q, e] at b3
          cases b3
          rw [hd] at b6
          cases b6
        · rw [q, hT p hp] at b3
          cases b3
          cases b6
      · obtain ⟨o, es, ep, e, hd, _⟩ := hns
        rw [z, hT p hp] at e
        cases e
        cases hd
    have e0 : Env0 P w K mg (hidT s₁.heap H) callerA [] s₁ H := ⟨rfl, hM, fun b o e => of_hidT e, Nat.le_of_eq (hidT_size _ _), trivial, fun b hb => absurd hb (by simp [frs]), hok, .of_eq hg⟩
    refine codeAny_mono ((F _ hKb (nsK hns) TB).run callerA [] s₁ H ⟨[.ref a], []⟩ [.ref a] [.ref a] _ _ hr e0 (hbind s₁ (.ref a)) (.cons rfl .nil) (hsp H hH hS)) fun r s' h => ?_
    match r, h with
    | .error e, h => exact (hCX H e s' h).elim
    | .ok .next, h | .ok .brk, h | .ok .cont, h => exact h.elim
    | .ok (.ret u), ⟨v, H', os, bare, un, hok', r', q⟩ =>
      have q' : v = .bl true := q
      subst q'
      obtain rfl : u = Value.bool true := r'
      have key : ∀ b o, b ∉ cs.map (·.2) → s₁.heap.get? b = some o → s'.heap.get? b = some o := fun b o nb e => by
        rcases hO b with q | z | ⟨ob, xs, z⟩
        · exact un.keep b o e q (by simp [frs]) (by simp)
        · exact absurd z nb
        · obtain ⟨e1, _⟩ := hok b _ z
          obtain ⟨e2, _⟩ := hok' b _ (un.frzs b ob _ z)
          rw [e] at e1
          cases e1
          exact e2
      have grown : ∀ p ∈ cs, ∃ more : Array Value, s'.heap.get? p.2 = some { cls := .none, data := .fields more } := fun p hp => by
        obtain ⟨more, z⟩ := un.tbls p.2 #[] (hH p hp)
        exact ⟨_, hok' p.2 _ z⟩
      refine ⟨rfl, ⟨fun b o e => ?_, fun b o e => ?_⟩, os, bare⟩
      · by_cases hb : b ∈ cs.map (·.2)
        · obtain ⟨p, hp, rfl⟩ := List.mem_map.mp hb
          obtain ⟨more, hm⟩ := grown p hp
          rw [hT p hp] at e
          cases e
          exact .inr (.inl ⟨((C p hp).tab (hT p hp)).isCodeTable, rfl, #[], more, rfl, by rw [Array.empty_append]; exact hm⟩)
        · exact .inl (key b o hb e)
      · by_cases hb : b ∈ cs.map (·.2)
        · obtain ⟨p, hp, rfl⟩ := List.mem_map.mp hb
          obtain ⟨more, hm⟩ := grown p hp
          exact ⟨_, hm⟩
        · exact ⟨o, key b o hb e⟩
  have tb : ∀ (t : Bool) (p : Addr × Addr), p ∈ cs → hp0 (cs.map (·.2)) a t { cls := .type "list", data := .seq vs.toArray } (ns.map V.int) p.2 = some (.tbl #[]) := fun t p hp => by
    unfold hp0
    have n : ¬ (t = true ∧ p.2 = a) := fun z => aT (z.2 ▸ memT p hp)
    rw [if_neg n, if_pos (memT p hp)]
  have sees : ∀ (t : Bool) (b : Addr) (u : HO), hp0 (cs.map (·.2)) a t { cls := .type "list", data := .seq vs.toArray } (ns.map V.int) b = some u →
      (t = true ∧ b = a ∧ u = .frz { cls := .type "list", data := .seq vs.toArray } (.lst (ns.map V.int))) ∨ (b ∈ cs.map (·.2) ∧ u = .tbl #[]) := fun t b u z => by
    unfold hp0 at z
    by_cases c : t = true ∧ b = a
    · rw [if_pos c] at z
      cases z
      exact .inl ⟨c.1, c.2, rfl⟩
    · rw [if_neg c] at z
      by_cases d : b ∈ cs.map (·.2)
      · rw [if_pos d] at z
        cases z
        exact .inr ⟨d, rfl⟩
      · rw [if_neg d] at z
        cases z
  have all : ∀ t : Bool, (t = true → K.lookup a = none) → SqL K (hp0 (cs.map (·.2)) a t { cls := .type "list", data := .seq vs.toArray } (ns.map V.int)) a (ns.map V.int) →
      codeAny (model P w) callerA (.call (.ref fa) ⟨[.ref a], []⟩) (fun r s' => r = .ok (.ret (.bool true)) ∧ OldK s₁.heap s'.heap ∧ s'.os = s₁.os ∧ AllBare s'.gens) s₁ := fun t ht hS => by
    refine core _ (fun p hp => tb t p hp) (fun b => ?_) hS (fun b u z => ?_) (fun b z => ?_) fun z => ?_
    · cases e : hp0 (cs.map (·.2)) a t { cls := .type "list", data := .seq vs.toArray } (ns.map V.int) b with
      | none => exact .inl rfl
      | some u =>
        rcases sees t b u e with ⟨_, _, rfl⟩ | ⟨d, _⟩
        · exact .inr (.inr ⟨_, _, rfl⟩)
        · exact .inr (.inl d)
    · rcases sees t b u z with ⟨_, rfl, rfl⟩ | ⟨d, rfl⟩
      · exact ⟨ha, by rw [List.length_map]; exact hl, vs, _, rv, ha⟩
      · exact isT b d
    · cases e : hp0 (cs.map (·.2)) a t { cls := .type "list", data := .seq vs.toArray } (ns.map V.int) b with
      | none => exact absurd e z
      | some u => exact (sees t b u e).imp (·.2.1) (·.1)
    · cases e : hp0 (cs.map (·.2)) a t { cls := .type "list", data := .seq vs.toArray } (ns.map V.int) a with
      | none => exact absurd e z
      | some u =>
        rcases sees t a u e with ⟨t', _⟩ | ⟨d, _⟩
        · exact ht t'
        · exact absurd d aT
  cases hk : K.lookup a with
  | some o =>
    have e := KX a o hk
    rw [ha] at e
    cases e
    exact all false (fun z => by cases z) (.inr ⟨_, vs.toArray, _, hk, rfl, rfl, rfl, by rw [List.size_toArray, hi.length]; exact hl, by simpa using rv⟩)
  | none => exact all true (fun _ => hk) (.inl (.inr ⟨_, by unfold hp0; rw [if_pos ⟨rfl, rfl⟩]⟩))
/-- what is known of the law's promise -/
def LawAtG (l : PySem.W.OpenLaw) (w : World) (K : Fg) (CX : CXT) (k n : Nat) (x : Str) (mg : Str → Option Value) (fa : Addr) (h : Heap) : Prop :=
  ∃ (fd : FuncData) (cs : List (Addr × Addr)) (sp : Sp), (∀ p ∈ cs, h.get? p.2 = some { cls := .none, data := .fields #[] }) ∧ (∀ p ∈ cs, K.lookup p.2 = none) ∧ (∀ p ∈ cs, PySem.W.CodeHd h p.1 p.2) ∧ (∀ (s : Shared) (u : Value), BindsTo s fd ⟨[u], []⟩ [(x, u)]) ∧
    (∀ (H : Hp) (a : Addr) (ns : List Int), ns.length ≤ n → (∀ z ∈ ns, Builtin.Int.intBits z ≤ 1048576) → (∀ p ∈ cs, H p.2 = some (.tbl #[])) → SqL K H a (ns.map V.int) → sp [.ref a] H (fun v _ => v = .bl true) fun _ _ _ => False) ∧
    ∀ base : Heap, K.In base → base.Ns mainGlobals mg → (∀ p ∈ cs, TabB base mg p.1 p.2) → FnOk l.prog w K mg base CX k fa fd [x] sp
theorem walk_ofG {l : PySem.W.OpenLaw} {n k : Nat} {q : Program} {loose : List Str} {XP : (Str → Option Value) → Heap → Prop} {YP : World → Heap → Prop} {d : DefRec} {K : Params → Fg} {CX : World → CXT} {x : Str}
    (hn : l.most = some n) (hn2 : n ≤ sizeLine) (hdf : d.params.defaults = []) (hr : L2.Room k callerA) (hY : ∀ (w : World) (h : Heap), YP w h → (K w.params).In h)
    (F : ∀ (w : World) (mg : Str → Option Value) (fa : Addr) (h : Heap), YP w h → (K w.params).In h → h.Ns mainGlobals mg → mg d.name = some (.ref fa) → LawAtG l w (K w.params) (CX w) k n x mg fa h)
    (hCX : ∀ (w : World) (H : Hp) (s : Shared) (e : Value) (s' : Shared), CX w [] H s (fun _ _ _ => False) e s' → False) :
    PySem.W.WalkO q loose XP YP l.row.toRowW d [] (fun f vs => PySem.call f vs) := by
  refine Att.attach_callB hn hdf fun w s₀ s₁ mg mb fa o pm cd doc a vs ns G Y ho hd hcd hmg hobj hints hlen hbits hg => ?_
  have KX := hY w _ Y
  obtain ⟨fd, cs, sp, hT, nT, C, hb, hsp, hF⟩ := F w mg fa _ Y KX G.T.g hmg
  exact law_callG KX G.T.g G.T.b G.T.builtins G.T.nolimit hg hT nT C G.T.bmain hobj hints (Nat.le_trans hlen hn2) ⟨hr, rfl⟩ hF hb (fun H hH hS => hsp H a ns hlen hbits hH hS) fun H e s' => hCX w H s₁ e s'
end SL

end
section
/-! SMo: sum of a list or a tuple of ints; repr of small data -/
namespace SL
open PySem PySem.Spec PyProof.Rows L2 LamX NdefX
variable [Tbs]
def rSumT (K : Fg) : List V → Hp → VK → Prop := fun xs H Q => ∃ (a : Addr) (ns : List Int), xs = [V.ref a] ∧ SqT K H a (ns.map V.int) ∧ Q (.int ns.sum) H
theorem cr_sumT {X : Cx} (hc : X.calm = true) : CallR X (.builtin "sum") (rSumT X.K) := by
  intro pins s σ H xs us Q I r h
  obtain ⟨a, ns, rfl, ht, q⟩ := h
  obtain ⟨its, rv, hl, _⟩ := I.tuple ht
  rw [Vals.ref1 r]
  obtain ⟨ys, e⟩ := rv.ints.allInts.items
  have hn : numsOf its.toArray.toList = ns := by rw [show its.toArray.toList = its from rfl, rv.ints.numsOf]
  rw [e] at hl hn
  rw [nums_intItems] at hn
  have ht' : s.heap.IsTuple a (intItems ys) := by
    obtain ⟨o, ho, hc', n, hd⟩ := hl
    exact ⟨o, ho, hc', n, hd⟩
  refine PySem.W.ktm_sumG (I.ok.hd hc) ht' fun h' tk t' hk => ?_
  rw [preSum_eq, List.take_of_length_le (by simp), hn]
  exact ⟨.int _, H, I.kept hk, ⟨_, rfl⟩, q⟩
def pSumD : List PV → M PV
  | [.lst l] => do
    let bs ← liftO (ints? l)
    pure (.int bs.sum)
  | [.tup l] => do
    let bs ← liftO (ints? l)
    pure (.int bs.sum)
  | _ => stuck
theorem cs_sumD {X : Cx} : CallS X (fun xs H Q => rSum X.K xs H Q ∨ rSumT X.K xs H Q) pSumD := fun ah F H hs hs' xs ps z Q G c e k => by
  unfold pSumD at e
  split at e
  · obtain ⟨bs, h1, q1, e'⟩ := M.bind_ok e
    obtain ⟨e1, e2⟩ := M.lift_ok q1
    cases e2
    cases M.pure_ok e'
    rw [ints?_eq e1] at c
    cases c with
    | cons c t =>
      cases t
      obtain ⟨a, vs, rfl, h, z, r⟩ := c.lst
      rw [r.ints_of] at h
      exact .inl ⟨a, _, rfl, .of h, k F H _ .refl G (.int _)⟩
  · obtain ⟨bs, h1, q1, e'⟩ := M.bind_ok e
    obtain ⟨e1, e2⟩ := M.lift_ok q1
    cases e2
    cases M.pure_ok e'
    rw [ints?_eq e1] at c
    cases c with
    | cons c t =>
      cases t
      obtain ⟨a, vs, rfl, h, z, r⟩ := c.tup
      rw [r.ints_of] at h
      exact .inr ⟨a, _, rfl, .of h, k F H _ .refl G (.int _)⟩
  · cases e
section
variable {X : Cx} {e : Expr} {es : List Expr} {p pos : Pos} {gs : Ev → M (List PV)}
theorem cr_sumD (hc : X.calm = true) : CallR X (.builtin "sum") (fun xs H Q => rSum X.K xs H Q ∨ rSumT X.K xs H Q) := fun pins s σ H xs us Q I r h => h.elim (cr_sum hc pins s σ H xs us Q I r) (cr_sumT hc pins s σ H xs us Q I r)
theorem se_sumD (hm : X.mg "sum" = none) (ha : SAB X (e :: es) gs) (hc : X.calm = true := by rfl) (hg : Gl X "sum" := by rfl) (he : starEach (e :: es) X.env = (false, eval e X.env) :: starEach es X.env := by rfl) (hpl : (backTo pos (starEach es X.env)).any (·.1) = false := by rfl) :
    SE X (.Call (.Name "sum" p) (e :: es) [] pos) (gB pSumD gs) := se_B cs_sumD (pe_callB (cr_sumD hc) hg hm (by decide +kernel) ha (by decide) (by decide) he hpl)
end
@[simp] theorem v_sumT {ns : List Int} : pSumD [.tup (ns.map PV.int)] = pure (.int ns.sum) := by
  show (liftO (ints? _) >>= fun bs => pure (PV.int bs.sum)) = _
  rw [show (ns.map PV.int) = ns.map (fun x => PV.int x) from rfl, ints_map, lift_some, pure_bind, List.map_id']
@[simp] theorem v_sumL {ns : List Int} : pSumD [.lst (ns.map PV.int)] = pure (.int ns.sum) := by
  show (liftO (ints? _) >>= fun bs => pure (PV.int bs.sum)) = _
  rw [show (ns.map PV.int) = ns.map (fun x => PV.int x) from rfl, ints_map, lift_some, pure_bind, List.map_id']
theorem v_sumD {α : Type} {f : α → Int} {l : List α} : pSumD [.lst (l.map fun x => PV.int (f x))] = pure (.int (l.map f).sum) := by
  show (liftO (ints? _) >>= fun bs => pure (PV.int bs.sum)) = _
  rw [ints_map, lift_some, pure_bind]
/-! ### repr of small data -/
structure Sm (k w : Nat) (d : PyData) : Prop where
  sh : d.leavesShort 13 = true
  ok : d.showable = true
  nd : d.hasDict = false
  dp : d.depth ≤ k
  wt : d.weight ≤ w
structure SmAll (k w : Nat) (ds : List PyData) : Prop where
  sh : PyData.leavesShortAll 13 ds = true
  ok : PyData.showableAll ds = true
  nd : PyData.hasDictAll ds = false
  dp : PyData.depthAll ds ≤ k
  wt : PyData.weightAll ds ≤ w
section
variable {k w u : Nat} {d : PyData} {ds : List PyData}
theorem SmAll.nil : SmAll k w [] := ⟨rfl, rfl, rfl, Nat.zero_le _, Nat.zero_le _⟩
theorem SmAll.cons (h : Sm k w d) (t : SmAll k u ds) : SmAll k (w + 1 + u) (d :: ds) := by
  obtain ⟨a1, a2, a3, a4, a5⟩ := h
  obtain ⟨b1, b2, b3, b4, b5⟩ := t
  refine ⟨?_, ?_, ?_, ?_, ?_⟩
  · simp only [PyData.leavesShortAll, a1, b1, Bool.and_self]
  · simp only [PyData.showableAll, a2, b2, Bool.and_self]
  · simp only [PyData.hasDictAll, a3, b3, Bool.or_self]
  · simp only [PyData.depthAll]; exact Nat.max_le.mpr ⟨a4, b4⟩
  · simp only [PyData.weightAll]; omega
theorem SmAll.tup (t : SmAll k w ds) : Sm (k + 1) w (.tuple ds) := by
  obtain ⟨b1, b2, b3, b4, b5⟩ := t
  refine ⟨?_, ?_, ?_, ?_, ?_⟩
  · simpa only [PyData.leavesShort] using b1
  · simpa only [PyData.showable] using b2
  · simpa only [PyData.hasDict] using b3
  · simp only [PyData.depth]; omega
  · simpa only [PyData.weight] using b5
theorem SmAll.lst (t : SmAll k w ds) : Sm (k + 1) w (.list ds) := by
  obtain ⟨b1, b2, b3, b4, b5⟩ := t
  refine ⟨?_, ?_, ?_, ?_, ?_⟩
  · simpa only [PyData.leavesShort] using b1
  · simpa only [PyData.showable] using b2
  · simpa only [PyData.hasDict] using b3
  · simp only [PyData.depth]; omega
  · simpa only [PyData.weight] using b5
theorem Sm.int {n : Int} (h : n.natAbs < 1000) : Sm k 10 (.int n) := by
  have l : n.natAbs.log2 < 10 := by
    by_cases z : n.natAbs = 0
    · rw [z]; decide
    · exact (Nat.log2_lt z).mpr (by omega)
  refine ⟨?_, ?_, rfl, Nat.zero_le _, ?_⟩
  · simp only [PyData.leavesShort, decide_eq_true_eq]
    exact PyData.shown_int_le (by omega)
  · simp only [PyData.showable, decide_eq_true_eq]
    omega
  · simp only [PyData.weight]
    split <;> omega
theorem Sm.bool {b : Bool} : Sm k 0 (.bool b) := ⟨rfl, rfl, rfl, Nat.zero_le _, Nat.zero_le _⟩
theorem SmAll.map {α : Type} {f : α → PyData} : ∀ {l : List α}, (∀ x ∈ l, Sm k w (f x)) → SmAll k ((w + 1) * l.length) (l.map f)
  | [], _ => .nil
  | x :: l, h => by
    have t := SmAll.cons (h x List.mem_cons_self) (SmAll.map (l := l) fun y hy => h y (List.mem_cons_of_mem _ hy))
    rw [List.length_cons, Nat.mul_succ, Nat.add_comm]
    exact t
theorem Sm.okR (h : Sm k w d) (hk : k ≤ 32) (hw : w ≤ 1048576) : okR d = true := by
  obtain ⟨a1, a2, a3, a4, a5⟩ := h
  have e := PyData.shown_fits (B := 13) (by decide) (by decide) a1 (by omega)
  unfold SL.okR
  simp only [a2, a3, Bool.not_false, Bool.and_self, Bool.true_and, Bool.and_eq_true, decide_eq_true_eq]
  exact ⟨by omega, e⟩
end
theorem v_repr {p : PV} {d : PyData} (h : toD p = some d) (ho : okR d = true) : pRepr [p] = pure (.str d.shown) := by
  show (match toD p with
    | some d => guardM (okR d = true) (pure (PV.str d.shown))
    | none => stuck) = _
  rw [h]
  exact guard_pos ho
end SL

end
section
/-! SMp: try: a() / except E1 as n: .. / except E2 as n: .. -/
namespace SL
open PySem PySem.Spec PyProof.Rows L2 LamX NdefX
/-- a clause: its class, its name's slot, its suite's reading -/
structure Clause where
  c : Value
  i : Nat
  ts : Addr → Value → Option Addr → TS
/-- the ends of a clause's suite: its name is unbound behind it -/
def offD (i : Nat) (D : Ends) : Ends := ⟨fun σ H => D.nx (σ.set i none) H, D.rt, fun σ H => D.bk (σ.set i none) H, fun σ H => D.ct (σ.set i none) H⟩
def clW (K : Fg) (W : WX) (D : Ends) : List Clause → WX
  | [] => W
  | k :: r => fun cls d σ H => ∃ b, PySem.W.exmOne K cls k.c = some b ∧ (b = true → ∀ a, H a = none → k.ts a cls d (offD k.i D) (σ.set k.i (some (.ref a))) H) ∧ (b = false → clW K W D r cls d σ H)
inductive ClOk (X : Cx) : List ExceptHandler → List Clause → Prop
  | nil : ClOk X [] []
  | cons {x n : Str} {k : Clause} {b : Stmt} {su : List Stmt} {np p : Pos} {hds : List ExceptHandler} {l : List Clause} (hc : Names X x k.c) (hi : X.N[k.i]? = some n) (hl : X.env.kindOf n = some .local)
      (hsu : ∀ (a : Addr) (oe : Obj) (cls : Value) (d : Option Addr) (pn : List (Addr × Obj)), Zc cls d oe → (∃ vs, oe.data = .fields vs) → PSs (X.suite a ((a, oe) :: pn)) (b :: su) (k.ts a cls d)) (r : ClOk X hds l) : ClOk X (.ExceptHandler (some (.Name x np)) (some n) (b :: su) p :: hds) (k :: l)
section
variable {X : Cx} {body : List Stmt} {h1 : ExceptHandler} {hds : List ExceptHandler} {l : List Clause} {pos : Pos} {tb : WX → TS} {W0 : WX}
theorem ps_try_hds (hs : X.stack = X.env :: X.outer) (hf : X.env.frame = some X.env.locals) (hN : X.N.Nodup) (tk : Takes X W0) (hb : ∀ (W : WX) (pn : List (Addr × Obj)) (xe : Value → Shared → Prop), Takes (X.tr pn xe) W → PassesOwn (model X.prog X.w) X.A X.env xe → PSs (X.tr pn xe) body (tb W))
    (hh : ClOk X (h1 :: hds) l) : PS X (.Try body (h1 :: hds) [] [] pos) (fun D σ H => tb (clW X.K W0 D l) D σ H) := by
  refine ⟨fun ps s σ H D I h => wpAny_Try_except ?_⟩
  have ok := I.ok; have fr : X.A.frames = some (X.env :: X.outer) := ok.frames.trans (by rw [hs])
  refine wpAny_mono ((hb (clW X.K W0 D l) (X.pn ++ ps) (fun e s1 => wpAny (model X.prog X.w) X.A (noteFrame e X.env) (fun _ s2 => wpAny (model X.prog X.w) X.A (setFlight e none) (fun _ s3 => wpAny (model X.prog X.w) X.A (handleBy e X.env (h1 :: hds)) (L2.SP X ps D) X.xe s3) X.xe s2) X.xe s1) (fun u t z => ?_) PassesOwn.looking).run [] s σ H D (I.toTry _) h) (fun f s1 hq => ?_) fun e s1 he => he
  · obtain ⟨a, B, si, ps', τ, G, cls, d, rfl, Jt, nb, up, sky, na, os, ag, w⟩ := z
    have J : Inv X ps τ G si := Jt.ofTry ok
    show wpAny (model X.prog X.w) X.A (noteFrame (.ref a) X.env) _ _ _
    refine Sky.land Zc.steady fr hf (by rw [← hs]; exact sky) fun g3 fl3 up3 => ?_
    have J3 : Inv X ps τ G { t with heap := g3 } := J.landed nb fl3.1 (up.trans up3) os ag
    obtain ⟨o3, v3, e3, z3, d3⟩ := fl3.there
    have nfr : a ∉ frs (X.env :: X.outer) := fun hm => by
      obtain ⟨_, o', e', hn⟩ := fl3.2.2.1.mem hm; rw [e3] at e'; cases e'; exact hn _ d3
    have nL : a ≠ X.env.locals := fun y => nfr (List.mem_filterMap.mpr ⟨X.env, List.mem_cons_self, hf.trans (by rw [y])⟩)
    have nF : a ∉ X.fs := fun hm => by
      obtain ⟨e, he, q⟩ := List.mem_filterMap.mp hm; exact nfr (List.mem_filterMap.mpr ⟨e, List.mem_cons_of_mem _ he, q⟩)
    have S3 := J3.suite e3 d3 na nL nF
    have go : ∀ {hs' : List ExceptHandler} {ks : List Clause}, ClOk X hs' ks → clW X.K W0 D ks cls d τ G → wpAny (model X.prog X.w) X.A (handleBy (.ref a) X.env hs') (L2.SP X ps D) X.xe { t with heap := g3 } := fun {hs' ks} hk => by
      induction hk with
      | nil =>
        intro w; refine wpAny_handleBy_nil ?_
        obtain ⟨_, _, _, oe, vs, T, _, _, he, _, hd, y1, _⟩ := id fl3
        unfold PySem.passOn
        refine wpAny_bind (wpAny_field he hd y1 ?_); rw [if_neg (show ¬ ((Value.ref T == Value.none) = true) from by simp)]
        have last : wpAny (model X.prog X.w) X.A (setFlight (.ref a) X.env.frame) (fun _ s4 => wpAny (model X.prog X.w) X.A (throw (.ref a) : Sem Flow) (L2.SP X ps D) X.xe s4) X.xe { t with heap := g3 } := by
          rw [hf]; refine HandSPX.setFlight_upZ fl3 fun g4 hh4 up4 => wpAny_throw (tk _ _ ⟨a, B, si, ps, τ, G, cls, d, rfl, J, nb, (up.trans up3).trans up4, .inr (.inr (by rw [hs]; exact hh4)), na, os, ag, w⟩)
        first | exact wpAny_bind (wpAny_pure (wpAny_bind last)) | exact wpAny_bind last
      | @cons x n k b su np p hds2 l2 hc hi hl hsu r ih =>
        rintro ⟨b, hb1, hy, hn⟩
        refine wpAny_handleBy_cons (codeAny_handlers_test ?_) (by intro q; cases q)
        have LM := PySem.W.exm_one (M := model X.prog X.w) J3.kIn (show PySem.W.Looks (model X.prog X.w) g3 (typeOf (.ref a)) cls from fun A Q E s k q => wpAny_typeOf_ref (k _ _ e3) (by rw [z3.1]; exact q)) hb1
        have tst : ∀ {Q E : Value → Shared → Prop}, Q k.c { t with heap := g3 } → wpAny (model X.prog X.w) (X.A.mark (some (.ref a))) (eval (.Name x np) X.env) Q E { t with heap := g3 } := fun {Q E} q => by
          obtain ⟨hg, hdb, hm | ⟨hm, hv, nn⟩⟩ := hc
          · exact ld_glob (X := X.suite a ((a, o3) :: (X.pn ++ ps))) S3 hg hm q hdb
          · exact ld_blt (X := X.suite a ((a, o3) :: (X.pn ++ ps))) S3 hg hm hv q nn hdb
        refine tst (LM.here ?_)
        cases b with
        | false => exact ih (hn rfl)
        | true =>
          refine codeAny_handlers_suite_as (HandSPX.lands_againZ fl3 fun g4 fl4 up4 => ?_)
          have J4 : Inv X ps τ G { t with heap := g4 } := J.landed nb fl4.1 ((up.trans up3).trans up4) os ag
          obtain ⟨o4, v4, e4, z4, d4⟩ := fl4.there
          refine store_ok (X := X.suite a ((a, o4) :: (X.pn ++ ps))) (v := .ref a) (J4.suite e4 d4 na nL nF) hN hi (.inl hl) rfl (fun s5 S5 => ?_) (.inr hl)
          refine wpAny_mono ((hsu a o4 cls d (X.pn ++ ps) z4 ⟨_, d4⟩).run [] s5 _ G _ S5 (hy rfl a na)) (fun f s6 hq => ?_) fun _ _ z => z.elim
          have off : ∀ {υ : L2.St} {H6 : Hp} {Q : Shared → Prop}, Inv (X.suite a ((a, o4) :: (X.pn ++ ps))) [] υ H6 s6 → (∀ s7, Inv X ps (υ.set k.i none) H6 s7 → Q s7) → wpAny (model X.prog X.w) X.A (do bindName X.env n .none; unbindBehindTheSuite X.env n p) (fun _ s7 => Q s7) X.xe s6 :=
            fun {υ H6 Q} S6 hq => gone_ok (S6.unsuite ok) hN hi hl hq
          cases f with
          | next | brk | cont => obtain ⟨υ, H6, S6, q6⟩ := hq; exact off S6 fun s7 J7 => ⟨_, _, J7, q6⟩
          | ret u => obtain ⟨v6, υ, H6, S6, r6, q6⟩ := hq; exact off S6 fun s7 J7 => ⟨_, _, _, J7, r6, q6⟩
    exact go hh w
  · cases f with
    | next => obtain ⟨τ, G, J, q⟩ := hq; exact wpAny_execs_nil ⟨τ, G, J.ofTry ok, q⟩
    | brk | cont => obtain ⟨τ, G, J, q⟩ := hq; exact ⟨τ, G, J.ofTry ok, q⟩
    | ret u => obtain ⟨v, τ, G, J, r, q⟩ := hq; exact ⟨v, τ, G, J.ofTry ok, r, q⟩
end
variable [Tbs]
section
variable {P : Program} {w : World} {K : Fg} {mg : Str → Option Value} {base : Heap} {Ng : List Str} {x a e1 e2 n : Str} {sg : Scope} {g C1 C2 : Addr} {cdg : Value} {k ie : Nat} {wm : PE' → M PV} {b1 b2 pre : Stmt} {su1 su2 rest : List Stmt} {p1 p2 p3 p4 p5 p7 p8 p9 : Pos} {cs : List Str} {gs : Nat → Option Nat → Str → SM} {gr : SM}
theorem never_ss {X : Cx} {sts : List Stmt} : PSs X sts (fun _ _ _ => False) := ⟨fun _ _ _ _ _ _ h => h.elim⟩
/-- pre / try: a() / except E1 as n: .. (never) / except E2 as n: suite / rest -/
theorem word_gives2 (hN : Ng.Nodup) (hi : Ng[ie]? = some n) (hln : sg.names.lookup n = some .local) (hie : ie ≠ 0)
    (hg1 : sg.names.lookup e1 = some .globalImplicit) (hm1 : mg e1 = some (.ref C1)) (hd1 : (e1 == ("__debug__" : Str)) = false)
    (hg2 : sg.names.lookup e2 = some .globalImplicit) (hm2 : mg e2 = some (.ref C2)) (hd2 : (e2 == ("__debug__" : Str)) = false)
    (hsw : ∀ A outer s H, swapsWith (.Call (.Name a p1) [] [] p2) none p3.line (zCx P w K mg base Ng x sg g cdg A outer s H).env = pure false)
    (hc1 : ∀ c ∈ cs, ∀ cls, mg c = some cls → PySem.W.exmOne K cls (.ref C1) = some false) (hc2 : ∀ c ∈ cs, ∀ cls, mg c = some cls → PySem.W.exmOne K cls (.ref C2) = some true)
    {iw : Nat} {lw : Str} (hpre : ∀ A outer s H, PS (zCx P w K mg base Ng x sg g cdg A outer s H).nox pre (tAsg (tC (.str lw)) (L2.gName iw))) (hiw : iw ≠ 0)
    (hsu : ∀ A outer s H, Room k (A.deeper (envOfC x sg s.heap.objs.size g cdg)) → ∀ c ∈ cs, ∀ (cls : Value) (a : Addr) (d : Option Addr) (oe : Obj) (pn : List (Addr × Obj)), mg c = some cls → Zc cls d oe → (∃ vs, oe.data = .fields vs) →
      SSs ((zCx P w K mg base Ng x sg g cdg A outer s H).nox.suite a ((a, oe) :: pn)) noW (b2 :: su2) (gs a d c))
    (hrest : ∀ A outer s H, Room k (A.deeper (envOfC x sg s.heap.objs.size g cdg)) → SSs (zCx P w K mg base Ng x sg g cdg A outer s H).nox noW rest gr)
    (hw0 : ∀ v hs p hs', wm (.inl v) hs = .ok (p, hs') → ∀ f : Nat, gr ((ev0 Ng.length [.exc f]).set iw (.fz (.str lw))) hs = .ok (.rt p, hs'))
    (hw1 : ∀ c hs p hs', wm (.inr c) hs = .ok (p, hs') → c ∈ cs ∧ ∀ (f a : Nat) (d : Option Nat), ∃ ρ2 hs2, gs a d c (((ev0 Ng.length [.exc f]).set iw (.fz (.str lw))).set ie (.fz (exE a d))) hs = .ok (.nx ρ2, hs2) ∧ gr (ρ2.set ie .un) hs2 = .ok (.rt p, hs')) :
    GivesW P w K mg base Ng x sg g cdg (pre :: .Try [.Expr (.Call (.Name a p1) [] [] p2) p3] [.ExceptHandler (some (.Name e1 p4)) (some n) (b1 :: su1) p7, .ExceptHandler (some (.Name e2 p5)) (some n) (b2 :: su2) p9] [] [] p8 :: rest) a k wm := by
  intro A outer f c' q s H Q tl hr act hc htt
  obtain ⟨ah, F, hs, r, hs1, p, hs', G, hout, hq, kk⟩ := htt
  have try_ := ps_try_hds (X := (zCx P w K mg base Ng x sg g cdg A outer s H).nox) (W0 := fun _ _ _ _ => False) (body := [.Expr (.Call (.Name a p1) [] [] p2) p3]) (h1 := .ExceptHandler (some (.Name e1 p4)) (some n) (b1 :: su1) p7) (hds := [.ExceptHandler (some (.Name e2 p5)) (some n) (b2 :: su2) p9]) (pos := p8)
    (l := [⟨.ref C1, ie, fun _ _ _ _ _ _ => False⟩, ⟨.ref C2, ie, fun a cls d D σ H => ∃ c ∈ cs, mg c = some cls ∧ tSS K noW (gs a d c) D σ H⟩])
    (tb := fun W D σ H => σ[0]? = some (some (.ref f)) ∧ H c' = some (CodeO c' q) ∧ tl (fun cls d H' => W cls d σ H') H (fun v H' => D.nx σ H')) rfl rfl hN L2.takes0
    (fun W pn xe tk _ => pss_one ⟨fun pins s1 σ1 H1 D I z => (ps_expr (act W pn xe (fun cls d H' => W cls d σ1 H') p1 p2 tk) (hsw A outer s H)).run pins s1 σ1 H1 D I ⟨fun _ _ _ h => h, z.1, z.2.1, z.2.2⟩⟩)
    (.cons ⟨hg1, hd1, .inl hm1⟩ hi hln (fun _ _ _ _ _ _ _ => never_ss) (.cons ⟨hg2, hd2, .inl hm2⟩ hi hln (fun a oe cls d pn hz hf => ⟨fun pins s' σ H' D I ⟨c, hc, hm, ht⟩ => (hsu A outer s H hr c hc cls a d oe pn hm hz hf).run pins s' σ H' D I ht⟩) .nil))
  refine ⟨_, pss_cons (hpre A outer s H) (pss_cons try_ (hrest A outer s H hr)), ?_⟩
  have e1 : ∀ {F1 : Addr → Prop} {H1 : Hp}, ER K ah F1 H1 (fun b => H b = none) ((L2.start Ng [V.ref f]).set iw (some (.str lw))) ((ev0 Ng.length [.exc f]).set iw (.fz (.str lw))) := (er_start (.cons .exc .nil)).setF (.str lw)
  have s0 : ((L2.start Ng [V.ref f]).set iw (some (.str lw)))[0]? = some (some (.ref f)) := by
    rw [List.getElem?_set_ne hiw]
    have := (List.getElem?_eq_some_iff.mp hi).1
    cases Ng with
    | nil => simp at this
    | cons y ys => rfl
  refine ⟨s0, hc, hout _ _ ?_⟩
  cases r with
  | inl v =>
    have q1 := hw0 v _ _ _ hq f
    intro F' H' u x' G' r'
    exact ⟨ah, F', H', F', _, hs1, _, hs', ⟨⟨hs1, G'⟩, .refl, G', (er_start (.cons .exc .nil)).setF (.str lw)⟩, q1, fun F2 H2 v2 x2 G2 r2 => kk F2 H2 v2 (x'.trans G G' x2) G2 r2⟩
  | inr c =>
    obtain ⟨hc2', q1⟩ := hw1 c _ _ _ hq
    intro F' H' cls d x' G' hd hm
    refine ⟨false, hc1 c hc2' cls hm, (fun z => by cases z), fun _ => ⟨true, hc2 c hc2' cls hm, (fun _ a' na => ⟨c, hc2', hm, ?_⟩), (fun z => by cases z)⟩⟩
    obtain ⟨ρ2, hs2, qa, qb⟩ := q1 f a' d
    refine ⟨ah, F', H', F', _, hs1, _, hs2, ⟨⟨hs1, G'⟩, .refl, G', ((er_start (.cons .exc .nil)).setF (.str lw)).setF ?_⟩, qa, fun F2 H2 σ2 I2 kp2 => ?_⟩
    · cases d with
      | none => exact .exc
      | some dx => obtain ⟨fs, e⟩ := hd dx rfl; exact .exd e
    · exact ⟨ah, F', H', F2, _, hs2, _, hs', ⟨⟨hs1, G'⟩, I2.ext, I2.gi, I2.er.unset⟩, qb, fun F3 H3 v3 x3 G3 r3 => kk F3 H3 v3 (x'.trans G G' x3) G3 r3⟩
end
/-! the classes that a clause never takes -/
def errN (K : Fg) (C : Addr) (cs : List (Str × Addr)) : Bool := cs.all fun c => PySem.W.exmOne K (.ref c.2) (.ref C) == some false
structure NotK (K : Fg) (mg : Str → Option Value) (cs : List Str) (e : Str) : Prop where
  ex : ∃ C, mg e = some (.ref C) ∧ ∀ c ∈ cs, ∀ cls, mg c = some cls → PySem.W.exmOne K cls (.ref C) = some false
theorem notK_of {K : Fg} {mg : Str → Option Value} {C : Addr} {cs : List (Str × Addr)} {ds : List Str} {e : Str} (hm : ∀ c ∈ cs, mg c.1 = some (.ref c.2)) (he : mg e = some (.ref C)) (h : errN K C cs = true) (s : ∀ c ∈ ds, c ∈ cs.map (·.1)) : NotK K mg ds e := by
  refine ⟨C, he, fun x hx cls hcls => ?_⟩
  obtain ⟨c, hc, rfl⟩ := List.mem_map.mp (s x hx)
  rw [hm c hc] at hcls
  cases hcls
  exact beq_iff_eq.mp (List.all_eq_true.mp h c hc)
end SL

end
section
/-! SMq: x in l, data of any depth, l a list or a tuple; what raises within an expression -/
namespace SL
open PySem PySem.Spec PyProof.Rows L2 LamX NdefX
variable [Tbs]
def okI (d : PyData) (ds : List PyData) : Bool := d.canLay0 && PyData.canLayAll0 ds && decide (d.depth ≤ 32)
def rInT (K : Fg) (neg : Bool) : R2 := fun x y H Q => ∃ d ds, Dp K H x d ∧ (Dp K H y (.list ds) ∨ Dp K H y (.tuple ds)) ∧ okI d ds = true ∧ Q (.bl (neg ^^ ds.any fun z => PyData.eqv z d)) H
section
variable {X : Cx}
theorem okI_at {d : PyData} {ds : List PyData} (h : okI d ds = true) : d.canLay0 = true ∧ PyData.canLayAll0 ds = true ∧ d.depth ≤ 32 := by
  unfold okI at h
  simp only [Bool.and_eq_true, decide_eq_true_eq] at h
  exact ⟨h.1.1, h.1.2, h.2⟩
theorem op_inT (hu : X.A.units + 64 < cLine) : OpR X (compareOp .In) (rInT X.K false) := by
  intro pins s σ H x y v u Q I rx ry h
  obtain ⟨d, ds, hd, he, ok, q⟩ := h
  obtain ⟨g1, g2, g3⟩ := okI_at ok
  rw [Bool.false_xor] at q
  obtain ⟨as, r1⟩ := Dp.reads I d x v hd rx
  have hm : X.A.units + 1 + min (PyData.depthAll ds) d.depth < cLine := by
    have := Nat.min_le_right (PyData.depthAll ds) d.depth
    omega
  rcases he with he | he
  · obtain ⟨bs, r2⟩ := Dp.reads I (.list ds) y u he ry
    exact SeqAt.in_list_reads r2 r1 g2 g1 hm ⟨.bl _, H, I, rfl, q⟩
  · obtain ⟨bs, r2⟩ := Dp.reads I (.tuple ds) y u he ry
    exact SeqAt.in_tuple_reads r2 r1 g2 g1 hm ⟨.bl _, H, I, rfl, q⟩
theorem op_notInT (hu : X.A.units + 64 < cLine) : OpR X (compareOp .NotIn) (rInT X.K true) := by
  intro pins s σ H x y v u Q I rx ry h
  obtain ⟨d, ds, hd, he, ok, q⟩ := h
  obtain ⟨g1, g2, g3⟩ := okI_at ok
  rw [Bool.true_xor] at q
  obtain ⟨as, r1⟩ := Dp.reads I d x v hd rx
  have hm : X.A.units + 1 + min (PyData.depthAll ds) d.depth < cLine := by
    have := Nat.min_le_right (PyData.depthAll ds) d.depth
    omega
  rcases he with he | he
  · obtain ⟨bs, r2⟩ := Dp.reads I (.list ds) y u he ry
    exact SeqAt.notIn_list_reads r2 r1 g2 g1 hm ⟨.bl _, H, I, rfl, q⟩
  · obtain ⟨bs, r2⟩ := Dp.reads I (.tuple ds) y u he ry
    exact SeqAt.notIn_tuple_reads r2 r1 g2 g1 hm ⟨.bl _, H, I, rfl, q⟩
def pInE (neg : Bool) (p q : PV) : M PV := match toD p, toD q with
  | some d, some (.list ds) => guardM (okI d ds = true) (pure (.bl (neg ^^ ds.any fun z => PyData.eqv z d)))
  | some d, some (.tuple ds) => guardM (okI d ds = true) (pure (.bl (neg ^^ ds.any fun z => PyData.eqv z d)))
  | _, _ => stuck
theorem ops_inE (neg : Bool) : OpS X (rInT X.K neg) (pInE neg) := fun ah F H hs hs' x y p q z Q G c d e k => by
  cases h1 : toD p with
  | none => unfold pInE at e; rw [h1] at e; cases e
  | some d' =>
    cases h2 : toD q with
    | none => unfold pInE at e; rw [h1, h2] at e; cases e
    | some e' =>
      unfold pInE at e
      rw [h1, h2] at e
      cases e' with
      | list ds =>
        obtain ⟨g, e⟩ := guard_ok e
        cases M.pure_ok e
        exact ⟨d', ds, toD_con c h1, .inl (toD_con d h2), g, k F H _ .refl G (.bl _)⟩
      | tuple ds =>
        obtain ⟨g, e⟩ := guard_ok e
        cases M.pure_ok e
        exact ⟨d', ds, toD_con c h1, .inr (toD_con d h2), g, k F H _ .refl G (.bl _)⟩
      | _ => cases e
end
/-! equality of told data -/
theorem eqv_ints : ∀ a b : List Int, PyData.eqvAll (a.map PyData.int) (b.map PyData.int) = decide (a = b)
  | [], [] => by simp [PyData.eqvAll]
  | [], y :: b => by simp [PyData.eqvAll]
  | x :: a, [] => by simp [PyData.eqvAll]
  | x :: a, y :: b => by
    rw [List.map_cons, List.map_cons, PyData.eqvAll, eqv_ints a b]
    have e : PyData.eqv (.int x) (.int y) = decide (x = y) := by simp only [PyData.eqv]; rfl
    rw [e]
    by_cases h : x = y <;> simp [h]
theorem eqv_iT (a b : List Int) : PyData.eqv (.tuple (a.map .int)) (.tuple (b.map .int)) = decide (a = b) := by
  rw [PyData.eqv, eqv_ints]
/-! a, b = e, f where a name is read in a comprehension: by a tuple -/
theorem SlotsIs.ext {K : Fg} {ah : Ax} {Z F F' : Addr → Prop} {H H' : Hp} {hs : HS} (G : GI K ah F H hs) (x : Ext K ah F H F' H') {vs : List V} {ss : List Slot} (s : SlotsIs K ah Z F H vs ss) : SlotsIs K ah Z F' H' vs ss := by
  induction s with
  | nil => exact .nil
  | fz r _ ih => exact .fz (r.mono (G.kp x)) ih
  | ow z nf nh o ap _ ih =>
    refine .ow z (fun y => ?_) nh (o.ext G x nh) ap ih
    rcases x.new _ y with y | y
    · exact nf y
    · obtain ⟨u, hu, _⟩ := o.there
      rw [y] at hu; cases hu
theorem ss_parT2 {X : Cx} {a b : Expr} {x y : Str} {i j : Nat} {px py pt : Pos} {kt k2 : Nat} {pt2 pos : Pos} {gs : Ev → M (List Slot)} {W : EW} (hx : PG X (.Name x px) (L2.gName i)) (hy : PG X (.Name y py) (L2.gName j)) (ha : SP X [a, b] gs)
    (hs : swapsWithSole [.Tuple [.Name x px, .Name y py] kt pt] (.Tuple [a, b] k2 pt2) pos.line X.env = pure false := by rfl) (hw : swappedStores [.Tuple [.Name x px, .Name y py] kt pt] (.Tuple [a, b] k2 pt2) X.env = pure none := by rfl) (hc : X.calm = true := by rfl)
    (h1 : (assignEach [.Tuple [.Name x px, .Name y py] kt pt] X.env).map (·.2) = [assign (.Tuple [.Name x px, .Name y py] kt pt) X.env] := by rfl)
    (h2 : (assignEach [.Name x px, .Name y py] X.env).length = 2 := by rfl) (h3 : (assignEach [.Name x px, .Name y py] X.env).findIdx? (·.1) = none := by rfl) (h4 : (assignEach [.Name x px, .Name y py] X.env).map (·.2) = assign (.Name x px) X.env :: (assignEach [.Name y py] X.env).map (·.2) := by rfl) (h5 : (assignEach [.Name y py] X.env).map (·.2) = assign (.Name y py) X.env :: (assignEach [] X.env).map (·.2) := by rfl) :
    SS X W (.Assign [.Tuple [.Name x px, .Name y py] kt pt] (.Tuple [a, b] k2 pt2) pos) (sParS [i, j] gs) := PS.wk (ps_asg (pe_tup ha) (pg_tup (n := 2) hc (pgs_cons hx (pgs_cons hy pgs_nil h5) h4) h2 h3) hs hw h1) fun D σ H ⟨ah, F0, H0, F, ρ, hs, out, hs', I, q, f⟩ => by
  obtain ⟨ss, h1, q1, q⟩ := M.bind_ok q
  obtain ⟨hl, q⟩ := guard_ok q
  cases M.pure_ok q
  refine ⟨ah, F, _, ρ, hs, _, _, I.gi, I.er, q1, fun F1 H1 vs x1 G1 r1 => ?_⟩
  have hl2 : vs.length = 2 := r1.len.trans hl
  match vs, hl2 with
  | [v, u], _ =>
    refine ⟨by rw [szE]; show 2 ≤ SZ; decide, fun p np => ⟨p, [v, u], rfl, .of upd_same, rfl, v, [u], rfl, u, [], rfl, rfl, ?_⟩⟩
    have x2 : Ext X.K ah F1 H1 F1 (upd H1 p (.tup [v, u])) := .laid np
    have x3 := x1.trans I.gi G1 x2
    exact f F1 _ _ (sets_inv (is := [i, j]) I x3 (G1.laid np) (r1.ext G1 x2)) (I.gi.kp x3)
end SL

end
section
/-! SMr: sorted of tuples, the first of them empty -/
namespace SLw
open PySem PySem.W PySem.Calls PyProof.Rows SeqAt
section
variable {prog : Program} {w : World} {A : Around} {E : Value → Shared → Prop} {s : Shared}
theorem oneLt_tups {xs ys : List PyData} {a b : Value} {as bs : List Addr} {Q : Bool → Shared → Prop} (ra : Reads s.heap a (.tuple xs) as) (rb : Reads s.heap b (.tuple ys) bs) (hal : alikeAll xs ys = true)
    (hu : A.units + min (PyData.tuple xs).depth (PyData.tuple ys).depth < cLine) (hq : Q (dataLt (.tuple xs) (.tuple ys)) s) : wpAny (model prog w) A (oneLt' true a b) Q E s := by
  cases ra with
  | @tuple l o vs n _ as₁ h1 h2 h3 h4 =>
    cases rb with
    | @tuple l' o' vs' n' _ bs₁ k1 k2 k3 k4 =>
      have n1 : vs.size = xs.length := by simpa using ReadsAll.length _ _ _ h4
      have n2 : vs'.size = ys.length := by simpa using ReadsAll.length _ _ _ k4
      rw [dataLt_tuple, ← firstLt_toks xs ys hal, ← n1, ← n2] at hq
      rw [oneLt'_eq]; simp only [if_true]
      refine wpAny_bind (wpAny_cRoomFor (room_here hu) ?_)
      obtain ⟨cls, dd, data, sl⟩ := o; obtain ⟨cls2, dd2, data2, sl2⟩ := o'
      simp only at h2 h3 k2 k3; subst h2 h3 k2 k3
      refine wpAny_bind (wpAny_callSpecialIfBound?_slot (T := "tuple") ⟨_, h1, rfl⟩ F.slot_tuple_lt (call_meets F.slot_tuple_lt ⟨_, h1, rfl⟩ F.entry_tuple_lt (F.args_tuple_lt_2 _ _) (tuple_ltAt l l' vs vs' n n' dd dd2 sl sl2 (pairEq xs ys) (fun j => dataLt (xs.getD j .none) (ys.getD j .none))) ⟨h1, k1, fun j j1 j2 => ?_, fun j j1 j2 hj => ?_, ?_⟩))
      · have q := eqAt_alikeAll xs ys A.in1 s vs.toList vs'.toList _ _ h4 k4 hal (room_in hu) j (by simpa using j1) (by simpa using j2)
        simpa using q
      · have q := rcLt_alikeAll xs ys A.in1 s vs.toList vs'.toList _ _ h4 k4 hal (room_in hu) j (by simpa using j1) (by simpa using j2) hj
        simpa using q
      · exact wpAny_truthy_bool hq
theorem mapM_each {M : Model} {α β : Type} {f : α → Sem β} {P : α → β → Prop} : ∀ (l : List α) {Q : List β → Shared → Prop}, (∀ v ∈ l, ∃ r, P v r ∧ ∀ (Q' : β → Shared → Prop), Q' r s → wpAny M A (f v) Q' E s) → (∀ rs, EachIs P l rs → Q rs s) → wpAny M A (l.mapM f) Q E s
  | [], _, _, h => by rw [List.mapM_nil]; exact wpAny_pure (h _ .nil)
  | x :: l, Q, hf, h => by
    rw [List.mapM_cons]
    obtain ⟨r, p, k⟩ := hf x List.mem_cons_self
    exact wpAny_bind (k _ (wpAny_bind (mapM_each l (Q := fun bs s' => wpAny M A (pure (r :: bs)) Q E s') (fun v hv => hf v (List.mem_cons_of_mem _ hv)) fun rs e => wpAny_pure (h _ (.cons p e)))))
/-- a tuple of the heap -/
def TupAt (h : Heap) (v : Value) (xs : Array Value) : Prop := ∃ l o n, v = .ref l ∧ h.get? l = some o ∧ o.cls = .type "tuple" ∧ o.data = .seq xs n
theorem tup_looks {M : Model} {h : Heap} {v : Value} {xs : Array Value} (t : TupAt h v xs) : Looks M h (typeOf v) (.type "tuple") := by
  obtain ⟨l, o, n, rfl, h1, h2, h3⟩ := t
  exact h2 ▸ (Looks.ld h1).andThen .now
theorem kind_empty {M : Model} {v₁ : Value} {rest : List Value} {Q : SortKind → Shared → Prop} (h1 : TupAt s.heap v₁ #[]) (hr : ∀ v ∈ rest, ∃ xs, TupAt s.heap v xs) (h : Q oneType' s) : wpAny M A (keyKind' (v₁ :: rest).toArray) Q E s := by
  have all : ∀ v ∈ v₁ :: rest, ∃ xs, TupAt s.heap v xs := fun v hv => by
    rcases List.mem_cons.mp hv with rfl | hv
    · exact ⟨_, h1⟩
    · exact hr v hv
  rw [kat_kind_eq, List.mapM_toArray, map_eq_pure_bind]
  refine wpAny_bind (wpAny_bind (mapM_each (P := fun v r => ∀ xs, TupAt s.heap v xs → r = xs[0]?) _ (fun v hv => ?_) fun rs e => wpAny_pure ?_))
  · obtain ⟨xs, l, o, n, rfl, g1, g2, g3⟩ := all v hv
    refine ⟨xs[0]?, fun ys ⟨l', o', n', q, k1, k2, k3⟩ => ?_, fun Q' hq => ?_⟩
    · cases q
      rw [g1] at k1; cases k1; rw [g3] at k3; cases k3; rfl
    · rw [kas_first_eq]
      refine wpAny_bind ((tup_looks ⟨l, o, n, rfl, g1, g2, g3⟩).here ?_)
      rw [if_neg (by decide)]
      exact wpAny_bind (listItems_at g1 g3 (wpAny_pure hq))
  · cases e with
    | @cons _ r _ rs p t =>
      have er : r = none := p _ h1
      subst er
      rw [if_neg (by simp), if_neg (by simp)]
      rw [oneTypeOnly'_eq, List.mapM_toArray, map_eq_pure_bind]
      refine wpAny_bind (wpAny_bind (wpAny_bind (kas_mapM (r := .type "tuple") _ (fun v hv Q' hq => by obtain ⟨xs, tx⟩ := all v hv; exact (tup_looks tx).here hq) (wpAny_pure ?_))))
      have e0 : (List.map (fun _ => Value.type "tuple") (v₁ :: rest)).toArray[0]? = some (Value.type "tuple") := by simp
      have ea : ((List.map (fun _ => Value.type "tuple") (v₁ :: rest)).toArray.all fun x => x == Value.type "tuple") = true := by
        simp only [List.all_toArray, List.all_map, List.all_eq_true]
        intro _ _; show (Value.type "tuple" == Value.type "tuple") = true; rfl
      rw [e0]; simp only [ea, if_true]
      exact wpAny_pure (wpAny_pure h)
/-- the first is (), all are tuples -/
def EmptyFirst (ds : List PyData) : Prop := ds.head? = some (.tuple []) ∧ ∀ d ∈ ds, ∃ xs, d = .tuple xs
theorem reads_tup {h : Heap} {v : Value} {xs : List PyData} {as : List Addr} (r : Reads h v (.tuple xs) as) : ∃ vs, TupAt h v vs ∧ vs.size = xs.length := by
  cases r with
  | @tuple l o vs n _ _ h1 h2 h3 h4 => exact ⟨vs, ⟨l, o, n, rfl, h1, h2, h3⟩, by simpa using ReadsAll.length _ _ _ h4⟩
theorem sorts_empty {vs : List Value} {ds : List PyData} (e : EachIs (fun v d => ∃ as, Reads s.heap v d as) vs ds) (hal : AllAlike ds) (hk : EmptyFirst ds) (hu : ∀ d, d ∈ ds → A.units + d.depth < cLine) : SortsAt prog w A s (dataKind s.heap ds) vs := by
  refine ⟨fun v hv => ?_, oneType', ?_, fun h2 E Q hq => ?_⟩
  · obtain ⟨d, hd, as, r⟩ := e.left v hv
    exact ⟨_, dataKind_some hal hd r⟩
  · intro E x y a b Q ha hb hq
    obtain ⟨d, as, hd, ra, rfl⟩ := dataKind_inv ha
    obtain ⟨d', as', hd', rb, rfl⟩ := dataKind_inv hb
    have hdd := hal d hd d' hd'
    have hr : A.units + min d.depth d'.depth < cLine := Nat.lt_of_le_of_lt (Nat.add_le_add_left (Nat.min_le_left _ _) _) (hu d hd)
    obtain ⟨xs, rfl⟩ := hk.2 d hd
    obtain ⟨ys, rfl⟩ := hk.2 d' hd'
    rw [keyLt'_oneType]
    exact oneLt_tups ra rb (by simpa [alike] using hdd) hr hq
  · cases e with
    | nil => exact absurd h2 (by simp)
    | @cons v d vs ds r t =>
      obtain ⟨as, r⟩ := r
      have e0 : d = .tuple [] := Option.some.inj hk.1
      subst e0
      obtain ⟨z, tz, hz⟩ := reads_tup r
      have : z = #[] := Array.eq_empty_of_size_eq_zero hz
      subst this
      refine kind_empty tz (fun u hu' => ?_) hq
      obtain ⟨d', hd', as', r'⟩ := t.left u hu'
      obtain ⟨xs, rfl⟩ := hk.2 d' (List.mem_cons_of_mem _ hd')
      obtain ⟨z', tz', _⟩ := reads_tup r'
      exact ⟨z', tz'⟩
variable {β : Type} {R : Value → β → Prop} {enc : β → PyData} {vs : List Value} {bs : List β}
theorem sorted_colE {x : Value} {Q : Value → Shared → Prop} (col : ∀ (Q' : List Value → Shared → Prop) (E' : Value → Shared → Prop), Q' vs { s with heap := (s.heap.push (seqObj "list" #[] 0)).update s.heap.objs.size (Obj.mapSeq (· ++ vs.toArray)) } → wpAny (model prog w) A.in1 (collect x) Q' E' s)
    (e : EachIs R vs bs) (er : EachIs (fun v b => ∃ as, Reads s.heap v (enc b) as) vs bs) (hal : AllAlike (bs.map enc)) (hk : Sortable (bs.map enc) ∨ EmptyFirst (bs.map enc)) (hL : bs.length ≤ sizeLine)
    (hu : ∀ b, b ∈ bs → A.units + 2 + (enc b).depth < cLine) (h : ∀ out, out.length = bs.length → EachIs R out (bs.mergeSort (dataLe false enc)) → Q (.ref (s.heap.objs.size + 1)) { s with heap := sortedAll s.heap vs (List.toArray out) }) :
    wpAny (model prog w) A (call (.builtin "sorted") [x]) Q E s := by
  rcases hk with hk | hk
  · exact sorted_colD col e er hal hk hL hu h
  have er' : EachIs (fun v b => ∃ as, Reads (sortingHeap (copyHeap s.heap vs) (s.heap.objs.size + 1) vs) v (enc b) as) vs bs := er.mono fun _ _ ⟨as, r⟩ => ⟨as, PyProof.Rows.Reads.keeps (fun _ _ => sorting_copy_old) r⟩
  have hz : vs.length ≤ sizeLine := by rw [e.length]; exact hL
  have S := sorts_empty (prog := prog) (w := w) (A := A.in1.in1) (s := { s with heap := sortingHeap (copyHeap s.heap vs) (s.heap.objs.size + 1) vs }) (each_map (R := fun v d => ∃ as, Reads (sortingHeap (copyHeap s.heap vs) (s.heap.objs.size + 1) vs) v d as) enc er') hal hk (bound_map hu)
  refine sorted_col hz col fun E' => list_sort_vals (s := { s with heap := copyHeap s.heap vs }) (copyHeap_at s.heap vs) S hz ⟨rfl, ?_⟩
  exact h _ (by rw [sortVals_length false rfl]; exact e.length) (sortVals_data false e er' hal)
end
end SLw
namespace L2
open PySem PySem.Spec PyProof.Rows
def rSortedE (K : PySem.W.Frag) : List V → Hp → VK → Prop := fun xs H Q => ∃ (a : Addr) (bs : List VD), xs = [V.ref a] ∧ (SqL K H a (bs.map (·.1)) ∨ SqT K H a (bs.map (·.1))) ∧ (∀ b ∈ bs, Dp K H b.1 b.2) ∧ PySem.W.AllAlike (bs.map (·.2)) ∧ (PySem.W.Sortable (bs.map (·.2)) ∨ SLw.EmptyFirst (bs.map (·.2))) ∧ (∀ b ∈ bs, b.2.depth ≤ 32) ∧
  ∀ p, H p = none → Q (.ref p) (upd H p (.lst ((bs.mergeSort (PySem.W.dataLe false (·.2))).map (·.1))))
theorem cr_sortedE {X : Cx} (hu : X.A.units + 64 < cLine) : CallR X (.builtin "sorted") (rSortedE X.K) := by
  intro pins s σ H vs us Q I r h
  obtain ⟨a, bs, rfl, hs, hd, ha, hk, hp, q⟩ := h
  obtain ⟨u, rfl, ru⟩ := vals1 r
  obtain rfl : u = Value.ref a := ru
  obtain ⟨its, rv, hz, col⟩ : ∃ its : List Value, Vals (bs.map (·.1)) its ∧ (bs.map (·.1)).length ≤ sizeLine ∧ ∀ (Q' : List Value → Shared → Prop) (E' : Value → Shared → Prop), Q' its { s with heap := (s.heap.push (seqObj "list" #[] 0)).update s.heap.objs.size (Obj.mapSeq (· ++ its.toArray)) } → wpAny (model X.prog X.w) X.A.in1 (collect (.ref a)) Q' E' s := by
    rcases hs with hs | hs
    · obtain ⟨its, rv, hl, hz⟩ := I.list hs
      exact ⟨its, rv, hz, fun Q' E' h => PyProof.Rows.collect_list hl.isList h (by rw [← rv.length]; exact hz)⟩
    · obtain ⟨its, rv, hl, hz⟩ := I.tuple hs
      exact ⟨its, rv, hz, fun Q' E' h => SLw.collect_tup hl (by rw [← rv.length]; exact hz) h⟩
  obtain ⟨e1, e2⟩ := each_vd I rv hd
  rw [List.length_map] at hz
  refine SLw.sorted_colE (enc := fun b : VD => b.2) col e1 e2 ha hk hz (fun b hb => by have := hp b hb; omega) fun out ho h1 => ?_
  have h2 := vals_each h1
  obtain ⟨ep, he'⟩ := PyProof.Rows.sortedAll_at s.heap its out.toArray
  have hlen : ((bs.mergeSort (PySem.W.dataLe false fun b : VD => b.2)).map (·.1)).length ≤ sizeLine := by rw [List.length_map, List.length_mergeSort]; exact hz
  exact ⟨.ref _, upd H (s.heap.objs.size + 1) (.lst ((bs.mergeSort (PySem.W.dataLe false fun b : VD => b.2)).map (·.1))), I.laid (t' := s.toks) (fun _ _ => PyProof.Rows.sortedAll_old) (Nat.le_succ _) ⟨hlen, out, ep, h2, he'⟩, rfl, q _ (I.hok.fresh (Nat.le_succ _))⟩
end L2
namespace SL
open PySem PySem.Spec PyProof.Rows L2
variable [Tbs]
def isTupD : PyData → Bool
  | .tuple _ => true
  | _ => false
def sortE : List PyData → Bool
  | .tuple [] :: ds => ds.all isTupD
  | _ => false
theorem sortE_ok {ds : List PyData} (h : sortE ds = true) : SLw.EmptyFirst ds := by
  match ds, h with
  | .tuple [] :: ds, h =>
    refine ⟨rfl, fun d hd => ?_⟩
    rcases List.mem_cons.mp hd with rfl | hd
    · exact ⟨_, rfl⟩
    · have := List.all_eq_true.mp h d hd
      cases d with
      | tuple xs => exact ⟨_, rfl⟩
      | _ => cases this
def sortPE (l : List PV) : M PV := match toDs l with
  | some ds => guardM (alikeB ds = true ∧ (sortB ds || sortE ds) = true ∧ (ds.all fun d => decide (d.depth ≤ 32)) = true) (pure (.lst (sorts l ds)))
  | none => stuck
def pSortedE : List PV → M PV
  | [.tup l] => sortPE l
  | [.lst l] => sortPE l
  | _ => stuck
section
variable {X : Cx}
theorem cf_sortedE : CallF X (rSortedE X.K) pSortedE := fun ah F H hs hs' xs ps z Q G c e k => by
  have fin : ∀ {a vs l}, xs = [.ref a] → (SqL X.K H a vs ∨ SqT X.K H a vs) → Reps X.K ah F H vs l → vs.length ≤ sizeLine → sortPE l hs = .ok (z, hs') → rSortedE X.K xs H Q := by
    intro a vs l ex hq r hz e
    unfold sortPE at e
    cases hd : toDs l with
    | none => rw [hd] at e; cases e
    | some ds =>
      rw [hd] at e
      obtain ⟨⟨g1, g2, g3⟩, e⟩ := guard_ok e
      cases M.pure_ok e
      have hl := toDs_len hd
      have hv : vs.length = ds.length := r.length.trans hl
      have e3 : (vs.zip ds).map (·.1) = vs := List.map_fst_zip (by omega)
      have e4 : (vs.zip ds).map (·.2) = ds := List.map_snd_zip (by omega)
      refine ⟨a, vs.zip ds, ex, by rw [e3]; exact hq, dp_zip (toDs_rep r hd), by rw [e4]; exact alikeB_ok g1, by rw [e4]; exact (Bool.or_eq_true_iff.mp g2).imp sortB_ok sortE_ok, fun b hb => ?_, fun p n => ?_⟩
      · have := List.all_eq_true.mp g3 b.2 (by rw [← e4]; exact List.mem_map_of_mem hb)
        exact of_decide_eq_true this
      · exact new_lst G n (by rw [List.length_map, List.length_mergeSort, List.length_zip]; omega) (sort_reps r hl) k
  unfold pSortedE at e
  split at e
  · cases c with | cons c t => cases t; obtain ⟨a, vs, rfl, h, z, r⟩ := c.tup; exact fin rfl (.inr (.of h)) r z e
  · cases c with | cons c t => cases t; obtain ⟨a, vs, rfl, h, z, r⟩ := c.lst; exact fin rfl (.inl (.of h)) r z e
  · cases e
variable {e : Expr} {es : List Expr} {p pos : Pos} {gs : Ev → M (List PV)}
theorem sf_sortedE (hu : X.A.units + 64 < cLine) (hm : X.mg "sorted" = none) (ha : SAB X (e :: es) gs) (hg : Gl X "sorted" := by rfl) (he : starEach (e :: es) X.env = (false, eval e X.env) :: starEach es X.env := by rfl) (hpl : (backTo pos (starEach es X.env)).any (·.1) = false := by rfl) : SF X (.Call (.Name "sorted" p) (e :: es) [] pos) (gB pSortedE gs) :=
  sf_B cf_sortedE (pe_callB (cr_sortedE hu) hg hm (by decide +kernel) ha (by decide) (by decide) he hpl)
end
end SL

end
section
/-! SMs: tuple(range(e)), enumerate of a tuple, an error raised by the first part of a statement -/
namespace PySem
open Sem (wp)
open AutoSeq1 (wpAny_loadPart')
theorem sl_enum_new {v : Value} {o : Obj} {H : Heap → Prop} (B : Begins v o H) : Meets (Builtin.«enumerate.__new__» ⟨[.type "enumerate", v], []⟩) (fun _ R s => H s.heap ∧ R (.ok (.ret (.ref (s.heap.push o).objs.size))) { s with heap := (s.heap.push o).push { cls := .type "enumerate", data := .fields #[.none, .bool false, .ref s.heap.objs.size, rawInt 0, .none, .none] } }) :=
  .of_wp fun prog w A R s h => by
    obtain ⟨hp, g, d, tk, os⟩ := s; obtain ⟨h1, h⟩ := h; have hsub := sub_enumerate
    have q1 : ∀ {A' : Around} {E : Value → Shared → Prop} {Q : Value → Shared → Prop}, Q (.ref hp.objs.size) ⟨hp.push o, g, d, tk, os⟩ → wpAny (model prog w) A' (pyIter v) Q E ⟨hp, g, d, tk, os⟩ := fun q => B.iter prog w _ _ ⟨hp, g, d, tk, os⟩ _ h1 q
    wp_walk using q1
    refine wpAny_stack_any fun st => wpAny_pure ?_
    split
    · rename_i c _ _ _ _ _; cases (c == Value.type "enumerate") <;> (wp_walk using q1; exact ⟨_, rfl, h⟩)
    · wp_walk using q1; exact ⟨_, rfl, h⟩
theorem sl_enum_call {prog : Program} {w : World} {A : Around} {E : Value → Shared → Prop} {s : Shared} {v : Value} {o : Obj} {H : Heap → Prop} {Q : Value → Shared → Prop} (B : Begins v o H) (h1 : H s.heap)
    (h : ∀ h', IsEnum h' (s.heap.objs.size + 1) s.heap.objs.size 0 .none → h'.get? s.heap.objs.size = some o → h'.objs.size = s.heap.objs.size + 2 → (∀ b o, s.heap.get? b = some o → h'.get? b = some o) → Q (.ref (s.heap.objs.size + 1)) { s with heap := h' }) : wpAny (model prog w) A (call (.type "enumerate") [v]) Q E s := by
  refine callType_new F.called_enumerate (by decide) (F.typeCall_enumerate_1 _) (F.newCall_enumerate_1 _) (fun obj => F.args_object_init_2 obj _) F.entry_enumerate_new (sl_enum_new B) ⟨h1, ?_⟩
  have hz : (s.heap.push o).objs.size = s.heap.objs.size + 1 := Heap.size_push ..
  show _ ∧ _; rw [hz]
  have he : IsEnum ((s.heap.push o).push { cls := .type "enumerate", data := .fields #[.none, .bool false, .ref s.heap.objs.size, rawInt 0, .none, .none] }) (s.heap.objs.size + 1) s.heap.objs.size 0 .none := by
    have q := Heap.get?_push_size (s.heap.push o) (o := { cls := .type "enumerate", data := .fields #[.none, .bool false, .ref s.heap.objs.size, rawInt 0, .none, .none] }) rfl
    rw [hz] at q; exact q
  exact ⟨⟨_, he, rfl⟩, h _ he (Heap.get?_push_of_some _ (Heap.get?_push_size _ B.free)) (by rw [Heap.size_push, hz]) fun b o x => Heap.get?_push_of_some _ (Heap.get?_push_of_some _ x)⟩
end PySem
namespace L2
open PySem PySem.Spec PyProof.Rows
/-- the tuple at a, each item in a new pair -/
def IteT (K : PySem.W.Frag) (a : Addr) : It :=
  ⟨fun i H => ∃ (xs : List V) (x : V), SqT K H a xs ∧ xs[i]? = some x, fun i H v H' => ∃ T x, v = .ref T ∧ H T = none ∧ H' = upd H T (.tup [.int (i : Nat), x]) ∧ ∀ xs, SqT K H a xs → xs[i]? = some x, fun i H => ∃ xs : List V, SqT K H a xs ∧ xs.length = i⟩
theorem turn_enumT {P : Program} {w : World} {K : PySem.W.Frag} {elts : List Expr} {kk : Nat} {tpos : Pos} (a e it : Addr) : Turn P w K (.Tuple elts kk tpos) (IteT K a) [e, it] e (fun i h => (∃ old, IsEnum h e it ((i : Nat) : Int) old) ∧ h.IsTupleIter it a i ∧ e ≠ it) where
  mem := by simp
  obj := fun i h st b hb => by
    obtain ⟨⟨old, he⟩, ⟨o, ho, hc, hd⟩, _⟩ := st
    rcases (show b = e ∨ b = it by simpa using hb) with z | z
    · rw [z]; exact ⟨_, he, fun v q => nomatch q⟩
    · rw [z]; exact ⟨o, ho, fun v q => by rw [hd] at q; cases q⟩
  keep := fun i h h' st k => let ⟨⟨old, he⟩, hi, hne⟩ := st; ⟨⟨old, k e (by simp) _ he⟩, hi.at fun o q => k it (by simp) o q, hne⟩
  item := by
    intro X hP hw hK hc i pins s σ H E I hf st hg
    subst hP hw hK
    obtain ⟨⟨old, he⟩, hit, hne⟩ := st
    obtain ⟨xs, x, hq, hx⟩ := hg
    obtain ⟨its, rv, p, hz⟩ := I.tuple hq
    have pt : s.heap.IsTuple a its.toArray := p
    obtain ⟨u, hu, ru⟩ := rv.get hx
    have hel : e < s.heap.objs.size := Heap.lt_size he
    have hil : it < s.heap.objs.size := by obtain ⟨_, q, _⟩ := hit; exact Heap.lt_size q
    have nA : a ≠ it := fun z => by
      obtain ⟨o, ho, hcl, _⟩ := id hit
      obtain ⟨o2, ho2, hcl2, _⟩ := id pt
      rw [z, ho] at ho2; cases ho2; rw [hcl] at hcl2
      exact absurd hcl2 (by decide)
    have nE : e ≠ a := fun z => by
      obtain ⟨o2, ho2, hcl2, _⟩ := id pt
      have he' : s.heap.get? e = some _ := he
      rw [z, ho2] at he'; cases he'
      exact absurd (show Value.type "enumerate" = .type "tuple" from hcl2) (by decide)
    have hi : i < its.toArray.size := by have := (List.getElem?_eq_some_iff.mp hu).1; simpa using this
    have D := Draws.tuple (prog := X.prog) (w := X.w) (A := X.A.in1) (by exact I.ok.hd hc) it a nA its.toArray
    refine wpAny_pyNext_enum_itemD D he ⟨hit, pt⟩ hi hne (by simp [hne, nE]) fun y h' tk hy ho hst hT hsz hk => ?_
    have hy' : y = u := by
      have : its.toArray[i]? = some u := by simpa using hu
      rw [this] at hy; exact (Option.some.inj hy).symm
    subst hy'
    refine ⟨_, rfl, wpAny_letOwnedTupleGo_enum (s := { s with heap := h', toks := tk + 1 }) ho fun h'' he' sb => ?_⟩
    have hT2 : h''.get? s.heap.objs.size = some { cls := .type "tuple", data := .seq #[.int i tk, y] } := (sb.2 _ (Nat.ne_of_gt hel)).trans hT
    have new : ObjOk X.prog X.w (upd H s.heap.objs.size (.tup [.int (i : Nat), x])) h'' s.heap.objs.size (.tup [.int (i : Nat), x]) := ⟨by show 2 ≤ sizeLine; decide, [.int i tk, y], .cons ⟨_, rfl⟩ (.cons ru .nil), ⟨_, hT2, rfl, _, rfl⟩⟩
    have I1 : Inv X pins σ (upd H s.heap.objs.size (.tup [.int (i : Nat), x])) { s with heap := h'', toks := tk + 1 } :=
      I.turnedNew (ch := [e, it]) (fun b ob hb q => (sb.2 b (fun z => hb (by simp [z]))).trans (hk b ob (fun z => hb (by simp [z])) (fun z => hb (by simp [z])) q)) hf (Nat.le_refl _) new
    refine ⟨.ref s.heap.objs.size, _, I1, rfl, ⟨_, x, rfl, I.hok.fresh (Nat.le_refl _), rfl, fun ys hy => by rw [I.tuple_inj hy hq]; exact hx⟩, ⟨⟨y, ?_⟩, hst.1.at fun o q => (sb.2 it (Ne.symm hne)).trans q, hne⟩, fun b hb => ?_⟩
    · have e1 : ((i + 1 : Nat) : Int) = (i : Int) + 1 := by omega
      rw [e1]; exact he'
    · have hb' : b < s.heap.objs.size := by
        rcases (show b = e ∨ b = it by simpa using hb) with z | z
        · rw [z]; exact hel
        · rw [z]; exact hil
      rw [upd_ne (Nat.ne_of_lt hb')]; exact (hf b hb).1
  done := by
    intro X hP hw hK hc i pins s σ H E I hf st hg
    subst hP hw hK
    obtain ⟨⟨old, he⟩, hit, hne⟩ := st
    obtain ⟨xs, hq, hx⟩ := hg
    obtain ⟨its, rv, p, hz⟩ := I.tuple hq
    have pt : s.heap.IsTuple a its.toArray := p
    obtain ⟨f0, f1, f2, f3, f4, f5⟩ := hf it (by simp)
    have hl := rv.length
    have nA : a ≠ it := fun z => by
      obtain ⟨o, ho, hcl, _⟩ := id hit
      obtain ⟨o2, ho2, hcl2, _⟩ := id pt
      rw [z, ho] at ho2; cases ho2; rw [hcl] at hcl2
      exact absurd hcl2 (by decide)
    have en : its.toArray.size = i := by simp; omega
    subst en
    have D := Draws.tuple (prog := X.prog) (w := X.w) (A := X.A.in1) (by exact I.ok.hd hc) it a nA its.toArray
    exact wpAny_pyNext_enum_endD D he ⟨hit, pt⟩ fun h' eb => ⟨rfl, I.turned (t' := s.toks) (fun b o hb q => eb b o hb q) f0 f1 f3 f4 f5⟩
  self := fun A i s Q E st h => let ⟨⟨_, he⟩, _⟩ := st; wpAny_pyIter_enum he h
def iEnumA0 (K : PySem.W.Frag) (ta : TA) : TI := fun σ H R => ta σ H fun vs H1 => ∃ a, vs = [.ref a] ∧ ((∃ xs, SqL K H1 a xs ∧ R (Ite K a) H1) ∨ ∃ xs, SqT K H1 a xs ∧ R (IteT K a) H1)
theorem pi_enumA {X : Cx} {e : Expr} {ta : TA} {p pos tpos : Pos} {elts : List Expr} {kk : Nat} (hg : Gl X "enumerate") (hm : X.mg "enumerate" = none) (ha : PA X [e] ta) (hs : starEach [e] X.env = [(false, eval e X.env)] := by rfl) : PI X (.Tuple elts kk tpos) (.Call (.Name "enumerate" p) [e] [] pos) (iEnumA0 X.K ta) := by
  refine ⟨fun pins s σ H R I h => Call_ (ld_blt I hg hm boot_enumerate (PyProof.Rows.callWith_type1 (thn (ha.run pos pins s σ H _ I h) fun us s1 ⟨vs, H1, I1, r1, q1⟩ => ?_) hs rfl))⟩
  obtain ⟨a, ex, hq⟩ := q1
  subst ex
  have fp : ∀ b ∈ [s1.heap.objs.size + 1, s1.heap.objs.size], s1.heap.objs.size ≤ b := fun b hb => by
    rcases (show b = s1.heap.objs.size + 1 ∨ b = s1.heap.objs.size by simpa using hb) with z | z
    · rw [z]; exact Nat.le_add_right _ _
    · rw [z]; exact Nat.le_refl _
  cases r1 with
  | cons r rr =>
    cases rr
    cases r
    rcases hq with ⟨xs, hq, q⟩ | ⟨xs, hq, q⟩
    · obtain ⟨its, rv, p', hz⟩ := I1.list hq
      refine call_enumerate_list p'.isList fun h' he hit hsz hk => wpAny_pyIter_enum he ?_
      exact ⟨s1.heap.objs.size + 1, [s1.heap.objs.size + 1, s1.heap.objs.size], _, _, H1, rfl, I1.kept (t' := s1.toks) hk, turn_enum a (s1.heap.objs.size + 1) s1.heap.objs.size, ⟨⟨.none, he⟩, hit, Nat.succ_ne_self _⟩, fun b hb => I1.fpOk (fp b hb) (I1.hok.fresh (fp b hb)), q⟩
    · obtain ⟨its, rv, p', hz⟩ := I1.tuple hq
      refine sl_enum_call (begins_tuple a its.toArray) (show s1.heap.IsTuple a its.toArray from p') fun h' he hit hsz hk => wpAny_pyIter_enum he ?_
      exact ⟨s1.heap.objs.size + 1, [s1.heap.objs.size + 1, s1.heap.objs.size], _, _, H1, rfl, I1.kept (t' := s1.toks) hk, turn_enumT a (s1.heap.objs.size + 1) s1.heap.objs.size, ⟨⟨.none, he⟩, ⟨_, hit, rfl, rfl⟩, Nat.succ_ne_self _⟩, fun b hb => I1.fpOk (fp b hb) (I1.hok.fresh (fp b hb)), q⟩
end L2
namespace SL
open PySem PySem.Spec PyProof.Rows L2 LamX NdefX
variable [Tbs]
section
variable {K : Fg} {ah : Ax} {F : Addr → Prop} {H : Hp} {a : Addr} {vs : List V} {ps : List PV}
theorem itw_enumT (h : H a = some (.tup vs)) (r : Reps K ah F H vs ps) : ItW K ah F H (IteT K a) (((rng 0 ps.length).zip ps).map fun t => .tup [t.1, t.2]) := by
  have hl : (((rng 0 ps.length).zip ps).map fun t : PV × PV => PV.tup [t.1, t.2]).length = ps.length := by simp [rng]
  refine ⟨fun i F1 H1 kp hi => ?_, fun F1 H1 kp => ?_, fun i F1 H1 hs x H2 kp g hi y => ?_⟩
  · rw [hl] at hi
    have h1 : i < vs.length := by rw [r.length]; exact hi
    exact ⟨vs, vs[i], .of (kp.tup _ _ h), by simp [h1]⟩
  · exact ⟨vs, .of (kp.tup _ _ h), by rw [hl, r.length]⟩
  · rw [hl] at hi
    obtain ⟨T, x', rfl, n, rfl, y⟩ := y
    obtain ⟨p, h1, h2⟩ := (r.mono kp).getV (y vs (.of (kp.tup _ _ h)))
    refine ⟨.tup [.int i, p], ?_, .laid n, g.laid n, .tup upd_same (by rw [szE]; show 2 ≤ SZ; decide) (.cons (.int _) (.cons (h2.mono (g.kpL n)) .nil))⟩
    rw [List.getElem?_map]
    have : ((rng 0 ps.length).zip ps)[i]? = some (.int i, p) := by
      rw [List.getElem?_zip_eq_some]
      exact ⟨by simp [rng, hi], h1⟩
    rw [this]; rfl
theorem itw_enumP {o : Obj} (h : H a = some (.frz o (.tup vs))) (r : Reps K ah F H vs ps) : ItW K ah F H (IteT K a) (((rng 0 ps.length).zip ps).map fun t => .tup [t.1, t.2]) := by
  have hl : (((rng 0 ps.length).zip ps).map fun t : PV × PV => PV.tup [t.1, t.2]).length = ps.length := by simp [rng]
  refine ⟨fun i F1 H1 kp hi => ?_, fun F1 H1 kp => ?_, fun i F1 H1 hs x H2 kp g hi y => ?_⟩
  · rw [hl] at hi
    have h1 : i < vs.length := by rw [r.length]; exact hi
    exact ⟨vs, vs[i], sqt_ptp (kp.frz _ _ _ h), by simp [h1]⟩
  · exact ⟨vs, sqt_ptp (kp.frz _ _ _ h), by rw [hl, r.length]⟩
  · rw [hl] at hi
    obtain ⟨T, x', rfl, n, rfl, y⟩ := y
    obtain ⟨p, h1, h2⟩ := (r.mono kp).getV (y vs (sqt_ptp (kp.frz _ _ _ h)))
    refine ⟨.tup [.int i, p], ?_, .laid n, g.laid n, .tup upd_same (by rw [szE]; show 2 ≤ SZ; decide) (.cons (.int _) (.cons (h2.mono (g.kpL n)) .nil))⟩
    rw [List.getElem?_map]
    have : ((rng 0 ps.length).zip ps)[i]? = some (.int i, p) := by
      rw [List.getElem?_zip_eq_some]
      exact ⟨by simp [rng, hi], h1⟩
    rw [this]; rfl
end
def iEnumA (gs : Ev → M (List PV)) : IM := fun ρ => do
  let xs ← gs ρ
  match xs with
  | [.lst l] => pure (((rng 0 l.length).zip l).map fun t => .tup [t.1, t.2])
  | [.tup l] => pure (((rng 0 l.length).zip l).map fun t => .tup [t.1, t.2])
  | [.ptp l] => pure (((rng 0 l.length).zip l).map fun t => .tup [t.1, t.2])
  | _ => stuck
@[simp] theorem e_enumA {gs : Ev → M (List PV)} {ρ : Ev} : iEnumA gs ρ = (gs ρ >>= fun xs => match xs with
  | [.lst l] => pure (((rng 0 l.length).zip l).map fun t => .tup [t.1, t.2])
  | [.tup l] => pure (((rng 0 l.length).zip l).map fun t => .tup [t.1, t.2])
  | [.ptp l] => pure (((rng 0 l.length).zip l).map fun t => .tup [t.1, t.2])
  | _ => stuck) := rfl
theorem si_enumA {X : Cx} {e : Expr} {gs : Ev → M (List PV)} {p pos tpos : Pos} {elts : List Expr} {kk : Nat} (hm : X.mg "enumerate" = none) (ha : SA X [e] gs) (hg : Gl X "enumerate" := by rfl) (hs : starEach [e] X.env = [(false, eval e X.env)] := by rfl) (hn : Rows gs 1) :
    SI X (.Tuple elts kk tpos) (.Call (.Name "enumerate" p) [e] [] pos) (iEnumA gs) :=
  PI.wk (pi_enumA hg hm ha hs) fun σ H R ⟨ah, F, N, ρ, hs, ps, hs', G, E, q, k⟩ => by
    obtain ⟨x, h1, q1, q⟩ := M.bind_ok q
    refine ⟨ah, F, N, ρ, hs, x, h1, G, E, q1, fun F1 H1 v1 x1 G1 r1 => ?_⟩
    have hl := hn _ _ _ _ q1
    match x, hl with
    | [y], _ =>
      cases y <;> first | (cases q; done) | skip
      · cases M.pure_ok q
        cases r1 with
        | cons r t =>
          cases t
          cases r with
          | tup h z r =>
            refine ⟨_, rfl, .inr ⟨_, .of h, k F1 H1 _ x1 G1 (itw_enumT h r) ?_⟩⟩
            rw [List.length_map, List.length_zip]
            have := r.length
            omega
      · cases M.pure_ok q
        cases r1 with
        | cons r t =>
          cases t
          cases r with
          | lst f h z r =>
            refine ⟨_, rfl, .inl ⟨_, .of h, k F1 H1 _ x1 G1 (itw_enum f h r) ?_⟩⟩
            rw [List.length_map, List.length_zip]
            have := r.length
            omega
      · cases M.pure_ok q
        cases r1 with
        | cons r t =>
          cases t
          cases r with
          | ptp h d z r =>
            refine ⟨_, rfl, .inr ⟨_, sqt_ptp h, k F1 H1 _ x1 G1 (itw_enumP h r) ?_⟩⟩
            rw [List.length_map, List.length_zip]
            have := r.length
            omega
/-! tuple(range(e)) -/
def pTRg : List PV → M PV
  | [.int j] => guardM (-(2 ^ 62) ≤ j ∧ j ≤ SZ) (pure (.tup (rng 0 j.toNat)))
  | _ => stuck
theorem se_trange {X : Cx} {a : Expr} {g : EM} {p p2 pos pos2 : Pos} (hl : X.mg "tuple" = none) (hm : X.mg "range" = none) (ha : SE X a g) (hc : X.calm = true := by rfl) (hg : Gl X "tuple" := by rfl) (hr : Gl X "range" := by rfl) (na : starEach [a] X.env = (false, eval a X.env) :: starEach [] X.env := by rfl)
    (nb : starEach [Expr.Call (.Name "range" p) [a] [] pos] X.env = (false, eval (Expr.Call (.Name "range" p) [a] [] pos) X.env) :: starEach [] X.env := by rfl) :
    SE X (.Call (.Name "tuple" p2) [.Call (.Name "range" p) [a] [] pos] [] pos2) (gB pTRg (gCons g gNil)) := PE.wk (pe_tupRg hc hg hl (prg_1 hr hm ha na) nb) fun σ H Q ⟨ah, F, N, ρ, hs, r, hs', G, E, q, kk⟩ => by
  obtain ⟨xs, h1, q1, q⟩ := M.bind_ok q
  obtain ⟨x, h2, q2, q1⟩ := M.bind_ok q1
  obtain ⟨ys, h3, q3, q1⟩ := M.bind_ok q1
  cases M.pure_ok q3
  cases M.pure_ok q1
  obtain ⟨j, rfl⟩ : ∃ j, x = .int j := by cases x <;> first | exact ⟨_, rfl⟩ | (cases q; done)
  obtain ⟨⟨b1, b2⟩, q⟩ := guard_ok q
  cases M.pure_ok q
  have hS : (SZ : Int) = 16777216 := rfl
  refine ⟨ah, F, N, ρ, hs, _, _, G, E, q2, fun F1 H1 v x1 G1 r1 => ?_⟩
  cases r1
  have e : (j - 0).toNat = j.toNat := by rw [Int.sub_zero]
  have rr : Reps X.K ah F1 H1 (rgV 0 j) (rng 0 j.toNat) := by
    unfold rgV rng
    rw [e]
    exact reps_rng _ _
  refine ⟨_, rfl, ⟨by omega, by omega, b1, by omega, by omega⟩, fun l n => ?_⟩
  have x2 : Ext X.K ah F1 H1 F1 (upd H1 l (.tup (rgV 0 j))) := .laid n
  exact kk F1 _ _ (x1.trans G G1 x2) (G1.laid n) (.tup upd_same (by rw [rgV_length, szE]; show _ ≤ 16777216; omega) (rr.mono (G1.kpL n)))
/-! an error that the first part of a statement raises -/
def exOf (g : EX) (s : SM) : SM := fun ρ hs => match g ρ hs with
  | .ok (.inr c, h') => .ok (.ex c, h')
  | _ => s ρ hs
theorem e_exOf_in {g : EX} {s : SM} {ρ : Ev} {p : PV} (h : g ρ = pure (.inl p)) : exOf g s ρ = s ρ := by
  funext hs
  unfold exOf
  rw [h]
  rfl
theorem e_exOf_ex {g : EX} {s : SM} {ρ : Ev} {c : Str} (h : g ρ = pure (.inr c)) : exOf g s ρ = pure (.ex c) := by
  funext hs
  unfold exOf
  rw [h]
  rfl
def tEx (K : Fg) (W : EW) (g : EX) : TE := fun σ H _ => ∃ ah F N ρ hs c hs', GI K ah F H hs ∧ ER K ah F H N σ ρ ∧ g ρ hs = .ok (.inr c, hs') ∧ ∀ F' H', Ext K ah F H F' H' → GI K ah F' H' hs' → W c H'
def tExS (K : Fg) (W : EW) (g : EX) : TS := fun _ σ H => ∃ ah F0 H0 F ρ hs c hs', SInv K ah F0 H0 F H σ ρ hs ∧ g ρ hs = .ok (.inr c, hs') ∧ ∀ F' H', Ext K ah F0 H0 F' H' → GI K ah F' H' hs' → W c H'
theorem exS_ex {K : Fg} {W : EW} {g : EX} {D : Ends} {σ : L2.St} {H : Hp} {Q : VK} (h : tExS K W g D σ H) : tEx K W g σ H Q := by
  obtain ⟨ah, F0, H0, F, ρ, hs, c, hs', I, q, k⟩ := h
  exact ⟨ah, F, _, ρ, hs, c, hs', I.gi, I.er, q, fun F' H' x G => k F' H' (I.step x G).ext G⟩
section
variable {X : Cx} {W : EW} {st : Stmt} {e a b : Expr} {es : List Expr} {g : EX} {s1 : SM} {x y : Str} {p pos : Pos}
theorem ss_exOf (hn : SS X W st s1) (hx : PS X st (tExS X.K W g)) : SS X W st (exOf g s1) := by
  refine ⟨fun pins s σ H D I ⟨ah, F0, H0, F, ρ, hs, out, hs', J, q, f⟩ => ?_⟩
  have gen : (∃ c h', g ρ hs = .ok (.inr c, h') ∧ out = .ex c ∧ hs' = h') ∨ s1 ρ hs = .ok (out, hs') := by
    unfold exOf at q
    split at q
    · rename_i c h' e
      cases q
      exact .inl ⟨c, _, e, rfl, rfl⟩
    · exact .inr q
  rcases gen with ⟨c, h', e, rfl, rfl⟩ | e
  · exact hx.run pins s σ H D I ⟨ah, F0, H0, F, ρ, hs, c, hs', J, e, f⟩
  · exact hn.run pins s σ H D I ⟨ah, F0, H0, F, ρ, hs, out, hs', J, e, f⟩
theorem ex_of (h : SX X W e g) : PE X e (tEx X.K W g) := PE.wk h fun σ H Q ⟨ah, F, N, ρ, hs, c, hs', G, E, q, k⟩ => ⟨ah, F, N, ρ, hs, .inr c, hs', G, E, q, k⟩
theorem ex_len (h : PE X e (tEx X.K W g)) (hm : X.mg "len" = none) (hc : X.calm = true := by rfl) (hg : Gl X "len" := by rfl) (he : starEach [e] X.env = (false, eval e X.env) :: starEach [] X.env := by rfl) (hpl : (backTo pos (starEach [] X.env)).any (·.1) = false := by rfl) : PE X (.Call (.Name "len" p) [e] [] pos) (tEx X.K W g) :=
  PE.wk (pe_callB call_len_seq hg hm PySem.boot_len (pa_cons h pa_nil he) (by decide) (by decide) he hpl) fun σ H Q h => h
theorem ss_par_ex {i j : Nat} {px py pt : Pos} {kt k2 : Nat} {pt2 : Pos} {gs : Ev → M (List PV)} (hN : X.N.Nodup) (hi : X.N[i]? = some x) (hj : X.N[j]? = some y) (hij : i ≠ j)
    (hx : X.env.scope.names.lookup x = some .local) (hy : X.env.scope.names.lookup y = some .local) (h : PE X a (tEx X.K W g)) (hb : SA X [b] gs)
    (hw : swappedStores [.Tuple [.Name x px, .Name y py] kt pt] (.Tuple [a, b] k2 pt2) X.env = pure (some [x, y]))
    (hs : swapsWithSole [.Tuple [.Name x px, .Name y py] kt pt] (.Tuple [a, b] k2 pt2) pos.line X.env = pure false := by rfl) (hc : X.calm = true := by rfl) (he : starEach [a, b] X.env = (false, eval a X.env) :: starEach [b] X.env := by rfl) :
    PS X (.Assign [.Tuple [.Name x px, .Name y py] kt pt] (.Tuple [a, b] k2 pt2) pos) (tExS X.K W g) := PS.wk (ps_par hc hN hi hj hij hx hy (pa_cons h hb he) hw hs) fun D σ H h => exS_ex (Q := fun _ _ => True) h
theorem ss_setLc_ex {i : Nat} {py spos : Pos} {elt tg iter : Expr} {ifs : List Expr} {scope : Scope} {own : List (Str × Nat)} {gt : GM} {tt : TM} {ge : EM} {is : List Nat} (hN : X.N.Nodup) (ok : BlkOk X.N X.env.scope scope own)
    (h : PE X iter (tEx X.K W g)) (hg : ∀ (s : Shared) (H : Hp) (C : Addr) (cl : List (Str × Addr)) (fp : List Addr), SG (X.blk s H scope (compEnvC scope cl C X.env) fp) tg gt is) (ht : ∀ (s : Shared) (H : Hp) (C : Addr) (cl : List (Str × Addr)) (fp : List Addr), STs (X.blk s H scope (compEnvC scope cl C X.env) fp) ifs tt)
    (he : ∀ (s : Shared) (H : Hp) (C : Addr) (cl : List (Str × Addr)) (fp : List Addr), SE (X.blk s H scope (compEnvC scope cl C X.env) fp) elt ge)
    (hy : X.N[i]? = some y) (hyl : X.env.scope.names.lookup y = some .local) (hsw : swapsWith (.ListComp elt [⟨tg, iter, ifs, 0⟩] scope pos) (some (.Name y py)) spos.line X.env = pure true) (hc : X.calm = true := by rfl) (hs : ∀ x, foldedSetIterable iter X.env x = pure x := by intro _; rfl) :
    PS X (.Assign [.Name y py] (.ListComp elt [⟨tg, iter, ifs, 0⟩] scope pos) spos) (tExS X.K W g) := PS.wk (ps_setLc (g := tSG X.K gt is) (tt := tST X.K tt) (te := tS X.K ge) hc hN hy hyl hsw (pi_seq h) ok hg ht he hs) fun D σ H h => exS_ex (Q := fun _ _ => True) h
end
end SL

end
section
/-! SMt: len of {flag: True for flag in ..}, the keys flags -/
namespace L2
open PySem PySem.Spec PyProof.Rows
def putB (bs : List Bool) (b : Bool) : List Bool := if b ∈ bs then bs else bs ++ [b]
theorem putB_nodup {bs : List Bool} {b : Bool} (h : bs.Nodup) : (putB bs b).Nodup := by
  unfold putB
  split
  · exact h
  · rename_i n
    rw [List.nodup_append]
    exact ⟨h, by simp, fun a ha c hc => by rw [List.mem_singleton.mp hc]; exact fun z => n (z ▸ ha)⟩
theorem two_bl : ∀ bs : List Bool, bs.Nodup → bs.length ≤ 2
  | [], _ => by simp
  | [_], _ => by simp
  | [_, _], _ => by simp
  | a :: b :: c :: _, h => by
    exfalso
    cases a <;> cases b <;> cases c <;> simp at h
def leafB : Bool → Leaf × Value
  | true => (.num 1, .bool true)
  | false => (.num 0, .bool true)
theorem leafB_is {P : Program} {w : World} (b : Bool) : (leafKind P w).is (leafB b).1 (.bool b) = true := by
  cases b
  · exact leaf_false
  · exact leaf_true
theorem leafB_inj {a b : Bool} (h : (leafB a).1 = (leafB b).1) : a = b := by
  cases a <;> cases b <;> first | rfl | exact absurd h (by decide)
theorem stored_B (bs : List Bool) (b : Bool) : stored (bs.map leafB) (leafB b).1 (.bool true) = (putB bs b).map leafB := by
  unfold stored putB
  have e : ((bs.map leafB).any fun kv => decide (kv.1 = (leafB b).1)) = decide (b ∈ bs) := by
    rw [List.any_map, Bool.eq_iff_iff, List.any_eq_true, decide_eq_true_eq]
    constructor
    · rintro ⟨x, hx, h⟩
      exact leafB_inj (of_decide_eq_true h) ▸ hx
    · exact fun h => ⟨b, h, decide_eq_true rfl⟩
  by_cases c : b ∈ bs
  · rw [if_pos (by rw [e]; exact decide_eq_true c), if_pos c, List.map_map]
    exact List.map_congr_left fun x _ => by
      show (if (leafB x).1 = (leafB b).1 then ((leafB x).1, Value.bool true) else leafB x) = leafB x
      split
      · cases x <;> rfl
      · rfl
  · rw [if_neg (by rw [e]; simp [c]), if_neg c, List.map_append]
    cases b <;> rfl
section
variable {X : Cx}
abbrev BDat (P : Program) (w : World) (h : Heap) (a : Addr) (bs : List Bool) : Prop := h.DictOf (leafKind P w) a (bs.map leafB)
theorem bd_at {P : Program} {w : World} {h h' : Heap} {a : Addr} {bs : List Bool} (R : BDat P w h a bs) (k : ∀ o, h.get? a = some o → h'.get? a = some o) : BDat P w h' a bs := by
  obtain ⟨o, es, ep, ho, r⟩ := R
  exact ⟨o, es, ep, k o ho, r⟩
theorem bd_obj {P : Program} {w : World} {h : Heap} {a : Addr} {bs : List Bool} (R : BDat P w h a bs) : ∃ o, h.get? a = some o ∧ ∀ v, o.data ≠ .cell v := by
  obtain ⟨o, es, ep, ho, _, hd, _⟩ := R
  exact ⟨o, ho, fun v q => by rw [hd] at q; cases q⟩
/-- {b: True for target in iter if ..}, the keys flags -/
def tDcB (wi : TI) (g : TG) (tt : TT) (tk tv : TE) (vs : List Nat) (σ : St) (H : Hp) (Q : List Bool → Hp → Prop) : Prop := wi σ H fun J H1 => ∃ W : List Bool → Nat → Nat → Hp → Prop, (∃ m, W [] 0 m H1) ∧ ∀ bs i m H, W bs i m H →
  (J.stop i H ∧ Q bs H) ∨ (J.go i H ∧ ∃ Nx : List Bool → Hp → Prop, (∀ bs H', Nx bs H' → ∃ m', m' < m ∧ W bs (i + 1) m' H') ∧ ∀ x H', J.yld i H x H' → g x (wipe σ vs) H' fun σ2 H2 => wipe σ2 vs = wipe σ vs ∧ tt σ2 H2 fun b H3 =>
    if b = true then tk σ2 H3 fun y H4 => tv σ2 H4 fun z H5 => ∃ k, y = .bl k ∧ z = .bl true ∧ Nx (putB bs k) H5 else Nx bs H3)
theorem dcB_core {pins : List (Addr × Obj)} {s : Shared} {σ : St} {H : Hp} {Q : List Bool → Hp → Prop} {kx vx tg iter : Expr} {ifs : List Expr} {scope : Scope} {own : List (Str × Nat)} {pos : Pos} {wi : TI} {g : TG} {tt : TT} {tk tv : TE} (I : Inv X pins σ H s) (hc : X.calm = true) (hN : X.N.Nodup) (hi : PI X tg iter wi) (ok : BlkOk X.N X.env.scope scope own)
    (hg : ∀ (s : Shared) (H : Hp) (C : Addr) (cl : List (Str × Addr)) (fp : List Addr), PG (X.blk s H scope (compEnvC scope cl C X.env) fp) tg g) (ht : ∀ (s : Shared) (H : Hp) (C : Addr) (cl : List (Str × Addr)) (fp : List Addr), PTs (X.blk s H scope (compEnvC scope cl C X.env) fp) ifs tt)
    (hk : ∀ (s : Shared) (H : Hp) (C : Addr) (cl : List (Str × Addr)) (fp : List Addr), PE (X.blk s H scope (compEnvC scope cl C X.env) fp) kx tk)
    (he : ∀ (s : Shared) (H : Hp) (C : Addr) (cl : List (Str × Addr)) (fp : List Addr), PE (X.blk s H scope (compEnvC scope cl C X.env) fp) vx tv) (hs : ∀ x, foldedSetIterable iter X.env x = pure x)
    (h : tDcB wi g tt tk tv (own.map (·.2)) σ H Q) :
    wpAny (model X.prog X.w) X.A (eval (.DictComp kx vx [⟨tg, iter, ifs, 0⟩] scope pos) X.env) (fun u s' => ∃ D bs H', u = .ref D ∧ Inv X pins σ H' s' ∧ bs.Nodup ∧ (D == sysModules) = false ∧ BDat X.prog X.w s'.heap D bs ∧ Q bs H') X.xe s := by
  rw [arm_eval_DictComp]
  have hfree : ∀ y ∈ scope.names, y.2 = .free → ∃ c, X.env.cells.lookup y.1 = some c := fun y hy e => (ok.free y hy e).elim (fun k => I.ok.has _ (.inl k)) fun k => I.ok.has _ (.inr k)
  refine wpAny_comprehension_free rfl hs (closure_ok hfree) ok.kind (fun y hy e => by rw [ok.uniq y hy, e]) (thn (hi.run pins s σ H _ I h) fun xv s1 hx => thn hx fun itv s2 h2 => ?_)
  obtain ⟨it, fp, tn, J, H2, e, I2, T, st2, f2, W, ⟨m0, w0⟩, turn⟩ := h2
  subst e
  refine wpAny_newObj_type (newEnv_comp ?_)
  have hbig := I2.big
  generalize hD : s2.heap.objs.size = D
  generalize hs3 : ({ s2 with heap := s2.heap.push { cls := .type "dict", data := .dict #[] } } : Shared) = s3
  have h3 : s3.heap = s2.heap.push { cls := .type "dict", data := .dict #[] } := by rw [← hs3]
  have keep3 : ∀ b o, s2.heap.get? b = some o → s3.heap.get? b = some o := fun b o e => by rw [h3]; exact Heap.get?_push_of_some _ e
  have I3 : Inv X pins σ H2 s3 := by rw [← hs3]; exact I2.kept (t' := s2.toks) fun b o e => Heap.get?_push_of_some _ e
  have sm : (D == sysModules) = false := beq_eq_false_iff_ne.mpr (by rw [← hD]; exact Ne.symm (Nat.ne_of_lt hbig))
  have d3 : BDat X.prog X.w s3.heap D [] := by rw [h3, ← hD]; exact Heap.DictOf.new s2.heap
  have old : ∀ b ∈ fp, b < D := fun b hb => let ⟨_, e, _⟩ := T.obj _ _ st2 b hb; by rw [← hD]; exact Heap.lt_size e
  have z3 : s3.heap.objs.size = D + 1 := by rw [h3, Heap.size_push, hD]
  have fD : FpOk X pins H2 D := I2.fpOk (Nat.le_of_eq hD) (I2.hok.fresh (Nat.le_of_eq hD))
  have f3 : ∀ b ∈ D :: fp, FpOk X pins H2 b ∧ b < s3.heap.objs.size := fun b hb => by
    rcases List.mem_cons.mp hb with e | hb
    · rw [e]; exact ⟨fD, by rw [z3]; exact Nat.lt_succ_self D⟩
    · exact ⟨f2 b hb, by rw [z3]; exact Nat.lt_succ_of_lt (old b hb)⟩
  have I4 := block_start I3 ok hN f3
  have pg := hg s3 H2 s3.heap.objs.size (cellsFrom (s3.heap.objs.size + 1) scope.names (cloFrom X.env.cells scope.names [])) (D :: fp)
  have pt := ht s3 H2 s3.heap.objs.size (cellsFrom (s3.heap.objs.size + 1) scope.names (cloFrom X.env.cells scope.names [])) (D :: fp)
  have pk := hk s3 H2 s3.heap.objs.size (cellsFrom (s3.heap.objs.size + 1) scope.names (cloFrom X.env.cells scope.names [])) (D :: fp)
  have pe := he s3 H2 s3.heap.objs.size (cellsFrom (s3.heap.objs.size + 1) scope.names (cloFrom X.env.cells scope.names [])) (D :: fp)
  show codeAny _ _ (.compStart (.DictComp kx vx [⟨tg, iter, ifs, 0⟩] scope pos) 0 (.ref it) (.ref D) (compEnvC scope (cellsFrom (s3.heap.objs.size + 1) scope.names (cloFrom X.env.cells scope.names [])) s3.heap.objs.size X.env)) (compPost (model X.prog X.w) X.A X.xe _ _ (.ref D) s3.heap.objs.size) { s3 with heap := pushCells (s3.heap.push { cls := .type "dict", data := .dict #[] }) scope.names }
  generalize hce : compEnvC scope (cellsFrom (s3.heap.objs.size + 1) scope.names (cloFrom X.env.cells scope.names [])) s3.heap.objs.size X.env = ce at I4 pg pt pk pe ⊢
  have cL : ce.locals = s3.heap.objs.size := by subst hce; rfl
  generalize hs4 : ({ s3 with heap := pushCells (s3.heap.push { cls := .type "dict", data := .dict #[] }) scope.names } : Shared) = s4 at I4 ⊢
  have keep4 : ∀ b o, s3.heap.get? b = some o → s4.heap.get? b = some o := fun b o e => by rw [← hs4]; exact pushCells_keeps _ _ _ _ (Heap.get?_push_of_some _ e)
  have st4 : tn 0 s4.heap := T.keep _ _ _ st2 fun b _ o e => keep4 b o (keep3 b o e)
  have d4 : BDat X.prog X.w s4.heap D [] := bd_at d3 fun o e => keep4 D o e
  have stat : ∀ {pl : List (Addr × Obj)} {σ' : St} {H' : Hp} {s' : Shared} {b : Addr}, Inv (X.blk s3 H2 scope ce (D :: fp)) pl σ' H' s' → H' b = none → b ∈ D :: fp → (∀ p ∈ pl, p.1 ≠ b) → FpOk (X.blk s3 H2 scope ce (D :: fp)) pl H' b := fun {pl σ' H' s' b} I' hn hb hp =>
    ⟨hn, (I'.ok.exf b hb).1, I'.ok.exfs b hb, .inl hb, fun x c e => (I'.ok.exf b hb).2 x c e, fun p hp' => hp p ((List.mem_append.mp hp').elim (fun z => absurd (show p ∈ ([] : List (Addr × Obj)) from z) (by simp)) id)⟩
  have loop : codeAny (model X.prog X.w) X.A (.compLoop (.DictComp kx vx [⟨tg, iter, ifs, 0⟩] scope pos) 0 (.ref it) (.ref D) ce) (compPost (model X.prog X.w) X.A X.xe none (fun u s' => ∃ D bs H', u = .ref D ∧ Inv X pins σ H' s' ∧ bs.Nodup ∧ (D == sysModules) = false ∧ BDat X.prog X.w s'.heap D bs ∧ Q bs H') (.ref D) s3.heap.objs.size) s4 := by
    refine compLoop_anyD (fun n s' => ∃ bs i H', Inv (X.blk s3 H2 scope ce (D :: fp)) [] (wipe σ (own.map (·.2))) H' s' ∧ tn i s'.heap ∧ (∀ b ∈ D :: fp, H' b = none) ∧ bs.Nodup ∧ BDat X.prog X.w s'.heap D bs ∧ W bs i n H') ?_ m0 ⟨[], 0, H2, I4, st4, fun b hb => (f3 b hb).1.1, .nil, d4, w0⟩
    rintro n s5 ⟨bs, i, H5, I5, st5, n5, nd5, d5, w5⟩
    have I5p := I5.pinned (fp := [D]) (fun b hb => by rw [List.mem_singleton.mp hb]; exact stat I5 (n5 D List.mem_cons_self) List.mem_cons_self (by simp)) fun b hb => by rw [List.mem_singleton.mp hb]; exact bd_obj d5
    have pD : ∀ p ∈ [] ++ pinsAt [D] s5.heap, p.1 = D := fun p hp => List.mem_singleton.mp (of_pinsAt (by simpa using hp)).1
    have fok : ∀ b ∈ fp, FpOk (X.blk s3 H2 scope ce (D :: fp)) ([] ++ pinsAt [D] s5.heap) H5 b := fun b hb => stat I5p (n5 b (List.mem_cons_of_mem _ hb)) (List.mem_cons_of_mem _ hb) fun p hp => by rw [pD p hp]; exact Ne.symm (Nat.ne_of_lt (old b hb))
    have dAt : ∀ {pl : List (Addr × Obj)} {σ' : St} {H' : Hp} {s' : Shared}, Inv (X.blk s3 H2 scope ce (D :: fp)) (([] ++ pinsAt [D] s5.heap) ++ pl) σ' H' s' → BDat X.prog X.w s'.heap D bs ∧ H' D = none := fun {pl σ' H' s'} I' => by
      obtain ⟨o, ho, _⟩ := bd_obj d5
      have hm : (D, o) ∈ pinsAt [D] s5.heap := mem_pinsAt List.mem_cons_self ho
      have z := I'.pin (D, o) (List.mem_append_right _ (List.mem_append_left _ (by simpa using hm)))
      exact ⟨bd_at d5 fun o' e => by rw [ho] at e; cases e; exact z.1, z.2.1⟩
    rcases turn bs i n H5 w5 with ⟨stop, qq⟩ | ⟨go, Nx, hNx, step⟩
    · refine thnF (T.done (X.blk s3 H2 scope ce (D :: fp)) rfl rfl rfl hc i ([] ++ pinsAt [D] s5.heap) s5 _ H5 (fun _ _ => False) I5p fok st5 stop) fun r s6 ⟨hr, I6⟩ => ?_
      subst hr
      have d6 := (dAt (pl := []) (by simpa using I6)).1
      have I7 : Inv X pins σ H5 s6 := I3.call' (ch := D :: fp) I6.os I6.base I6.hok I6.bare fun b hb => ⟨(f3 b hb).1.2.2.2.1, (f3 b hb).1.2.1, (f3 b hb).1.2.2.2.2.1, (f3 b hb).1.2.2.2.2.2⟩
      have nC : H5 s3.heap.objs.size = none := by rw [← cL]; exact I6.free
      obtain ⟨m, hn, _⟩ := I6.loc
      have hn : s6.heap.Ns ce.locals m := hn
      rw [cL] at hn
      obtain ⟨f0, f1, f2, f3, f4, f5⟩ := I3.fpOk (Nat.le_refl _) nC
      exact ⟨m, hn, fun h'' sb => ⟨D, bs, H5, rfl, I7.turned (t' := s6.toks) (fun b o hb e => (sb.2 b hb).trans e) f0 f1 f3 f4 f5, nd5, sm, bd_at d6 fun o e => (sb.2 D (by rw [z3]; exact Nat.ne_of_lt (Nat.lt_succ_self D))).trans e, qq⟩⟩
    · refine thnF (T.item (X.blk s3 H2 scope ce (D :: fp)) rfl rfl rfl hc i ([] ++ pinsAt [D] s5.heap) s5 _ H5 (fun _ _ => False) I5p fok st5 go) fun r s6 ⟨u, hr, h6⟩ => ?_
      subst hr
      refine thnF h6 fun _ s7 ⟨x, H7, I7, r7, y7, st7, n7⟩ => ?_
      have f7 : ∀ b ∈ fp, FpOk (X.blk s3 H2 scope ce (D :: fp)) ([] ++ pinsAt [D] s5.heap) H7 b := fun b hb => stat I7 (n7 b hb) (List.mem_cons_of_mem _ hb) fun p hp => by rw [pD p hp]; exact Ne.symm (Nat.ne_of_lt (old b hb))
      refine thnF (pg.run _ s7 _ H7 x u _ (I7.pinned f7 (T.obj _ _ st7)) r7 (step x H7 y7)) fun _ s8 ⟨σ8, H8, I8, hw8, q8⟩ => ?_
      refine thnF (pt.run _ s8 σ8 H8 _ I8 q8) fun b s9 ⟨H9, I9, q9⟩ => ?_
      have fin : ∀ {pl : List (Addr × Obj)} {s' : Shared} {H' : Hp} {bs' : List Bool}, Inv (X.blk s3 H2 scope ce (D :: fp)) (pl ++ pinsAt fp s7.heap) σ8 H' s' → H' D = none → bs'.Nodup → BDat X.prog X.w s'.heap D bs' → Nx bs' H' → ∃ m, m < n ∧ ∃ bs i H', Inv (X.blk s3 H2 scope ce (D :: fp)) [] (wipe σ (own.map (·.2))) H' s' ∧ tn i s'.heap ∧ (∀ b ∈ D :: fp, H' b = none) ∧ bs.Nodup ∧ BDat X.prog X.w s'.heap D bs ∧ W bs i m H' := fun {pl s' H' bs'} I' hD' nd' d' nx => by
        obtain ⟨m', hm, w'⟩ := hNx bs' H' nx
        have pin' : ∀ b ∈ fp, ∀ o, s7.heap.get? b = some o → s'.heap.get? b = some o ∧ H' b = none := fun b hb o e =>
          let z := I'.pin (b, o) (List.mem_append_right _ (List.mem_append_right _ (mem_pinsAt hb e)))
          ⟨z.1, z.2.1⟩
        refine ⟨m', hm, bs', i + 1, H', (I'.pins_of (pins' := []) (fun p hp => by simp at hp)).weak (by rw [← hw8, wipe_length]) (fun j v e => ?_), T.keep _ _ _ st7 fun b hb o e => (pin' b hb o e).1, fun b hb => ?_, nd', d', w'⟩
        · rw [← hw8] at e
          exact (wipe_some e).1
        · rcases List.mem_cons.mp hb with e | hb
          · rw [e]; exact hD'
          · obtain ⟨o, e, _⟩ := T.obj _ _ st7 b hb
            exact (pin' b hb o e).2
      cases b with
      | false =>
        simp only [Bool.false_eq_true, if_false] at q9 ⊢
        exact fin I9 (dAt I9).2 nd5 (dAt I9).1 q9
      | true =>
        simp only [if_true] at q9 ⊢
        refine thnF (pk.run _ s9 σ8 H9 _ I9 q9) fun z s10 ⟨yk, H10, I10, r10, q10⟩ => ?_
        refine thnF (pe.run _ s10 σ8 H10 _ I10 q10) fun z2 s11 ⟨yv, H11, I11, r11, k, ek, ev, nx⟩ => ?_
        subst ek ev
        obtain rfl : z = Value.bool k := r10
        obtain rfl : z2 = Value.bool true := r11
        obtain ⟨d11, hD11⟩ := dAt I11
        have l2 := two_bl bs nd5
        refine wpAny_dictSet_pairs (hsz := by rw [List.length_map]; exact Nat.le_trans l2 (by decide)) (leafB_is k) d11 fun h' dd' sb => ?_
        rw [stored_B] at dd'
        have I12 := I11.pins_of (pins' := [] ++ pinsAt fp s7.heap) fun p hp => I11.pin p (List.mem_append_right _ (List.mem_append_right _ (by simpa using hp)))
        obtain ⟨f0, f1, f2, f3, f4, f5⟩ := stat I12 hD11 List.mem_cons_self fun p hp => Nat.ne_of_lt (old p.1 (of_pinsAt (by simpa using hp)).1)
        exact fin (pl := []) (I12.turned (t' := s11.toks + 1) (fun b o hb e => (sb.2 b hb).trans e) f0 f1 f3 f4 f5) hD11 (putB_nodup nd5) dd' nx
  exact codeAny_compStart_dict loop (T.self X.A 0 _ _ _ st4 loop)
/-- len of it -/
def tLenDB (wi : TI) (g : TG) (tt : TT) (tk tv : TE) (vs : List Nat) : TE := fun σ H Q => tDcB wi g tt tk tv vs σ H fun bs H' => Q (.int (bs.length : Int)) H'
theorem pe_lenDB {kx vx tg iter : Expr} {ifs : List Expr} {scope : Scope} {own : List (Str × Nat)} {p pos cpos : Pos} {wi : TI} {g : TG} {tt : TT} {tk tv : TE} (hgl : Gl X "len") (hm : X.mg "len" = none) (hc : X.calm = true) (hN : X.N.Nodup) (hi : PI X tg iter wi) (ok : BlkOk X.N X.env.scope scope own)
    (hg : ∀ (s : Shared) (H : Hp) (C : Addr) (cl : List (Str × Addr)) (fp : List Addr), PG (X.blk s H scope (compEnvC scope cl C X.env) fp) tg g) (ht : ∀ (s : Shared) (H : Hp) (C : Addr) (cl : List (Str × Addr)) (fp : List Addr), PTs (X.blk s H scope (compEnvC scope cl C X.env) fp) ifs tt)
    (hk : ∀ (s : Shared) (H : Hp) (C : Addr) (cl : List (Str × Addr)) (fp : List Addr), PE (X.blk s H scope (compEnvC scope cl C X.env) fp) kx tk)
    (he : ∀ (s : Shared) (H : Hp) (C : Addr) (cl : List (Str × Addr)) (fp : List Addr), PE (X.blk s H scope (compEnvC scope cl C X.env) fp) vx tv) (hs : ∀ x, foldedSetIterable iter X.env x = pure x)
    (hst : starEach [Expr.DictComp kx vx [⟨tg, iter, ifs, 0⟩] scope cpos] X.env = (false, eval (Expr.DictComp kx vx [⟨tg, iter, ifs, 0⟩] scope cpos) X.env) :: starEach [] X.env) (hpl : (backTo pos (starEach [] X.env)).any (·.1) = false) :
    PE X (.Call (.Name "len" p) [.DictComp kx vx [⟨tg, iter, ifs, 0⟩] scope cpos] [] pos) (tLenDB wi g tt tk tv (own.map (·.2))) := by
  refine ⟨fun pins s σ H Q I h => ?_⟩
  refine wpAny_Call_Name_kw (ld_blt I hgl hm boot_len ?_ (by decide) (by decide))
  refine PyProof.Rows.callWith_builtin1 ?_ hst hpl
  rw [hst]
  refine Calls.spliced_cons (thn (dcB_core I hc hN hi ok hg ht hk he hs h) fun u s1 ⟨D, bs, H1, e, I1, nd, sm, d, q⟩ => Calls.spliced_nil ?_)
  subst e
  have l2 := two_bl bs nd
  exact call_len_dict sm d (by rw [List.length_map]; omega) ⟨.int bs.length, H1, I1.tok _, ⟨s1.toks + 1, by rw [List.length_map]⟩, q⟩
end
end L2
namespace SL
open PySem PySem.Spec PyProof.Rows L2 LamX NdefX
variable [Tbs]
def dbF (gt : GM) (tt : TM) (gk gv : EM) (ρ : Ev) : List Bool → List PV → M (List Bool)
  | acc, [] => pure acc
  | acc, p :: ps => do
    let ρ1 ← gt p ρ
    let b ← tt ρ1
    if b = true then (do
      let y ← gk ρ1
      let z ← gv ρ1
      let k ← asBl y
      let c ← asBl z
      if c = true then dbF gt tt gk gv ρ (putB acc k) ps else stuck) else dbF gt tt gk gv ρ acc ps
/-- len({b: True for target in iter if ..}), the keys flags -/
def gLenDB (gi : IM) (gt : GM) (tt : TM) (gk gv : EM) (vs : List Nat) : EM := fun ρ => do
  let ps ← gi ρ
  let r ← dbF gt tt gk gv (wipeE ρ vs) [] ps
  pure (.int (r.length : Nat))
theorem lenDB_w {K : Fg} {gi : IM} {gt : GM} {tt : TM} {gk gv : EM} {is vs : List Nat} (hv : ∀ i ∈ is, i ∈ vs) (σ : L2.St) (H : Hp) (Q : VK) (h : tS K (gLenDB gi gt tt gk gv vs) σ H Q) :
    tLenDB (tSI K gi) (tSG K gt is) (tST K tt) (tS K gk) (tS K gv) vs σ H Q := by
  obtain ⟨ah, F, N, ρ, hs, p, hs', G, E, q, k⟩ := h
  obtain ⟨ps, h1, q1, q⟩ := M.bind_ok q
  obtain ⟨r, h2, q2, q⟩ := M.bind_ok q
  cases M.pure_ok q
  refine ⟨ah, F, N, ρ, hs, ps, h1, G, E, q1, fun F1 H1 J x1 G1 I1 zl => ?_⟩
  have Ea := E.ext G x1
  refine ⟨fun acc i m H2 => m = ps.length - i ∧ i ≤ ps.length ∧ ∃ F2 hs2, Ext K ah F1 H1 F2 H2 ∧ GI K ah F2 H2 hs2 ∧ dbF gt tt gk gv (wipeE ρ vs) acc (ps.drop i) hs2 = .ok (r, hs'),
    ⟨ps.length, by simp, Nat.zero_le _, F1, h1, .refl, G1, q2⟩, ?_⟩
  rintro acc i m H2 ⟨rfl, hi, F2, hs2, x2, G2, q⟩
  have kp := G1.kp x2
  by_cases hlt : i < ps.length
  · refine .inr ⟨I1.goes i F2 H2 kp hlt, fun acc H3 => ∃ m', m' < ps.length - i ∧ m' = ps.length - (i + 1) ∧ i + 1 ≤ ps.length ∧ ∃ F2 hs2, Ext K ah F1 H1 F2 H3 ∧ GI K ah F2 H3 hs2 ∧ dbF gt tt gk gv (wipeE ρ vs) acc (ps.drop (i + 1)) hs2 = .ok (r, hs'), fun _ H3 z => z, fun x H3 y => ?_⟩
    obtain ⟨p, hp, x3, G3, rx⟩ := I1.yields i F2 H2 hs2 x H3 kp G2 hlt y
    have ed : ps.drop i = p :: ps.drop (i + 1) := by
      rw [List.drop_eq_getElem_cons hlt]; rw [List.getElem?_eq_getElem hlt] at hp; rw [Option.some.inj hp]
    rw [ed] at q
    obtain ⟨ρ1, h3, q3, qa⟩ := M.bind_ok q
    clear q
    have x13 := x2.trans G1 G2 x3
    have Ew : ER K ah F2 H3 N (L2.wipe σ vs) (wipeE ρ vs) := (Ea.ext G1 x13).wipe vs
    refine ⟨ah, F2, N, _, hs2, p, ρ1, h3, G3, Ew, rx, q3, fun σ' E' ww e => ⟨(ww vs hv).trans (wipe_wipe σ vs), ?_⟩⟩
    subst e
    obtain ⟨b, h4, q4, q⟩ := M.bind_ok qa
    clear qa
    refine ⟨ah, F2, N, ρ1, _, b, h4, G3, E', q4, fun F4 H4 x4 G4 => ?_⟩
    have x14 := x13.trans G1 G3 x4
    cases b with
    | false =>
      rw [if_neg Bool.false_ne_true] at q
      exact iteF ⟨_, by omega, rfl, hlt, F4, h4, x14, G4, q⟩
    | true =>
      rw [if_pos rfl] at q
      refine iteT ?_
      obtain ⟨y, h5, q5, qb⟩ := M.bind_ok q
      clear q
      obtain ⟨z, h6, q6, qc⟩ := M.bind_ok qb
      clear qb
      obtain ⟨kk, h7, q7, qd⟩ := M.bind_ok qc
      clear qc
      obtain ⟨c, h8, q8, q⟩ := M.bind_ok qd
      clear qd
      obtain rfl : y = .bl kk := (asBl_ok q7).1
      obtain rfl : h7 = h6 := (asBl_ok q7).2
      obtain rfl : z = .bl c := (asBl_ok q8).1
      obtain rfl : h8 = h7 := (asBl_ok q8).2
      refine ⟨ah, F4, N, ρ1, h4, .bl kk, h5, G4, E'.ext G3 x4, q5, fun F5 H5 v x5 G5 r5 => ?_⟩
      have Eb := (E'.ext G3 x4).ext G4 x5
      refine ⟨ah, F5, N, ρ1, h5, .bl c, _, G5, Eb, q6, fun F6 H6 u x6 G6 r6 => ?_⟩
      have x45 := x5.trans G4 G5 x6
      have x16 := x14.trans G1 G4 x45
      cases c with
      | false => rw [if_neg Bool.false_ne_true] at q; cases q
      | true =>
        rw [if_pos rfl] at q
        exact ⟨kk, (Con.rep r5).bl, (Con.rep r6).bl, _, by omega, rfl, hlt, F6, _, x16, G6, q⟩
  · have e : i = ps.length := by omega
    subst e
    rw [List.drop_length] at q
    cases M.pure_ok q
    exact .inl ⟨I1.stops F2 H2 kp, k F2 H2 _ (x1.trans G G1 x2) G2 (.int _)⟩
section
variable {X : Cx} {kx vx tg iter : Expr} {ifs : List Expr} {scope : Scope} {own : List (Str × Nat)} {p pos cpos : Pos} {gi : IM} {gt : GM} {tt : TM} {gk gv : EM} {is : List Nat}
theorem se_lenDB (hm : X.mg "len" = none) (hN : X.N.Nodup) (ok : BlkOk X.N X.env.scope scope own) (hi : SI X tg iter gi)
    (hg : ∀ (s : Shared) (H : Hp) (C : Addr) (cl : List (Str × Addr)) (fp : List Addr), SG (X.blk s H scope (compEnvC scope cl C X.env) fp) tg gt is) (ht : ∀ (s : Shared) (H : Hp) (C : Addr) (cl : List (Str × Addr)) (fp : List Addr), STs (X.blk s H scope (compEnvC scope cl C X.env) fp) ifs tt)
    (hk : ∀ (s : Shared) (H : Hp) (C : Addr) (cl : List (Str × Addr)) (fp : List Addr), SE (X.blk s H scope (compEnvC scope cl C X.env) fp) kx gk) (he : ∀ (s : Shared) (H : Hp) (C : Addr) (cl : List (Str × Addr)) (fp : List Addr), SE (X.blk s H scope (compEnvC scope cl C X.env) fp) vx gv)
    (hc : X.calm = true := by rfl) (hv : ∀ i ∈ is, i ∈ own.map (·.2) := by decide) (hs : ∀ x, foldedSetIterable iter X.env x = pure x := by intro _; rfl) (hgl : Gl X "len" := by rfl)
    (hst : starEach [Expr.DictComp kx vx [⟨tg, iter, ifs, 0⟩] scope cpos] X.env = (false, eval (Expr.DictComp kx vx [⟨tg, iter, ifs, 0⟩] scope cpos) X.env) :: starEach [] X.env := by rfl) (hpl : (backTo pos (starEach [] X.env)).any (·.1) = false := by rfl) :
    SE X (.Call (.Name "len" p) [.DictComp kx vx [⟨tg, iter, ifs, 0⟩] scope cpos] [] pos) (gLenDB gi gt tt gk gv (own.map (·.2))) :=
  PE.wk (pe_lenDB hgl hm hc hN hi ok hg ht hk he hs hst hpl) (lenDB_w hv)
end
end SL

end
section
/-! SMu: a list of own lists, changed by rows[i][j], rows[j][i] = flag, not flag: made and filled in one step, then shared -/
namespace SL
open PySem PySem.Spec PyProof.Rows L2 LamX NdefX
variable [Tbs]
def mput (rows : List (List Bool)) (i j : Nat) (b : Bool) : List (List Bool) := rows.set i ((rows.getD i []).set j b)
def mxRow (fl : M Bool) (i : Nat) : List Nat → List (List Bool) → M (List (List Bool))
  | [], rows => pure rows
  | j :: js, rows => do
    let b ← fl
    mxRow fl i js (mput (mput rows i j b) j i (!b))
def mxAll (fl : M Bool) : List Nat → List (List Bool) → M (List (List Bool))
  | [], rows => pure rows
  | i :: is, rows => do
    let r ← mxRow fl i (List.range i) rows
    mxAll fl is r
abbrev evB (n : Int) : Ev := [.fz .hand, .fz (.int n), .un, .un, .un, .un, .un, .un]
abbrev evI (n i : Int) : Ev := [.fz .hand, .fz (.int n), .un, .fz (.int i), .un, .un, .un, .un]
abbrev evF (n : Int) (b : Bool) : Ev := [.fz .hand, .fz (.int n), .un, .un, .un, .un, .fz (.bl b), .un]
def matP (rows : List (List Bool)) : PV := .lst (rows.map fun r => .lst (r.map PV.bl))
def sMx (gf : EM) : SM := fun ρ => match ρ with
  | [.fz .hand, .fz (.int n), _, _, _, _, _, _] => guardM (0 ≤ n ∧ n ≤ 100) (do
    let rows ← mxAll (gf (evB n) >>= asBl) (List.range n.toNat) (List.replicate n.toNat (List.replicate n.toNat false))
    pure (.nx [.fz .hand, .fz (.int n), .fz (matP rows), .un, .un, .un, .un, .un]))
  | _ => stuck
section
variable {K : Fg} {ah : Ax} {F0 F F' : Addr → Prop} {H0 H H' : Hp} {hs hs' hs0 : HS} {σ : L2.St} {n : Int} {D : Addr} {R : List Addr} {rows : List (List Bool)}
/-- the slots that are known -/
structure EB (ah : Ax) (n : Int) (σ : L2.St) : Prop where
  hd : ∃ a, ah.hd = some a ∧ σ[0]? = some (some (.ref a))
  n : σ[1]? = some (some (.int n))
  len : σ.length = 8
theorem EB.set {i : Nat} {v : Option V} (e : EB ah n σ) (h : 2 ≤ i) : EB ah n (σ.set i v) := by
  obtain ⟨⟨a, h1, h2⟩, h3, h4⟩ := e
  exact ⟨⟨a, h1, by rw [List.getElem?_set_ne (by omega)]; exact h2⟩, by rw [List.getElem?_set_ne (by omega)]; exact h3, by rw [List.length_set]; exact h4⟩
theorem EB.wipe {vs : List Nat} (e : EB ah n σ) (h : ∀ v ∈ vs, 2 ≤ v) : EB ah n (L2.wipe σ vs) := by
  induction vs with
  | nil => exact e
  | cons v vs ih =>
    unfold L2.wipe
    exact (ih fun w hw => h w (List.mem_cons_of_mem _ hw)).set (h v List.mem_cons_self)
theorem EB.slot0 {N : Addr → Prop} (e : EB ah n σ) : SlotRep K ah F H N σ[0]? (.fz .hand) := by
  obtain ⟨⟨a, h1, h2⟩, _⟩ := e
  rw [h2]; exact .fz (.hand h1)
theorem EB.slot1 {N : Addr → Prop} (e : EB ah n σ) : SlotRep K ah F H N σ[1]? (.fz (.int n)) := by
  rw [e.n]; exact .fz (.int n)
theorem er_mk {N : Addr → Prop} {ρ : Ev} (e : EB ah n σ) (hl : ρ.length = 8) (h : ∀ (i : Nat) (s : Slot), ρ[i]? = some s → SlotRep K ah F H N σ[i]? s) (ho : ∀ (i : Nat) p, ρ[i]? ≠ some (.ow p)) : ER K ah F H N σ ρ :=
  ⟨h, fun i j p q _ h1 _ => absurd h1 (ho i p), by rw [hl, e.len]⟩
theorem eight {P : Nat → Slot → Prop} {a b c d e f g h : Slot} (h0 : P 0 a) (h1 : P 1 b) (h2 : P 2 c) (h3 : P 3 d) (h4 : P 4 e) (h5 : P 5 f) (h6 : P 6 g) (h7 : P 7 h) : ∀ (i : Nat) (s : Slot), [a, b, c, d, e, f, g, h][i]? = some s → P i s := by
  intro i s hi
  match i, hi with
  | 0, hi => cases hi; exact h0
  | 1, hi => cases hi; exact h1
  | 2, hi => cases hi; exact h2
  | 3, hi => cases hi; exact h3
  | 4, hi => cases hi; exact h4
  | 5, hi => cases hi; exact h5
  | 6, hi => cases hi; exact h6
  | 7, hi => cases hi; exact h7
  | k + 8, hi => cases hi
theorem er_b {N : Addr → Prop} (e : EB ah n σ) : ER K ah F H N σ (evB n) :=
  er_mk e rfl (eight (P := fun i s => SlotRep K ah F H N σ[i]? s) e.slot0 e.slot1 (.un _) (.un _) (.un _) (.un _) (.un _) (.un _)) fun i p h => eight (P := fun _ s => s ≠ .ow p) (by intro z; cases z) (by intro z; cases z) (by intro z; cases z) (by intro z; cases z) (by intro z; cases z) (by intro z; cases z) (by intro z; cases z) (by intro z; cases z) i _ h rfl
theorem er_i {N : Addr → Prop} {i : Int} (e : EB ah n σ) (h3 : σ[3]? = some (some (.int i))) : ER K ah F H N σ (evI n i) :=
  er_mk e rfl (eight (P := fun i s => SlotRep K ah F H N σ[i]? s) e.slot0 e.slot1 (.un _) (by rw [h3]; exact .fz (.int i)) (.un _) (.un _) (.un _) (.un _)) fun i p h => eight (P := fun _ s => s ≠ .ow p) (by intro z; cases z) (by intro z; cases z) (by intro z; cases z) (by intro z; cases z) (by intro z; cases z) (by intro z; cases z) (by intro z; cases z) (by intro z; cases z) i _ h rfl
theorem er_f {N : Addr → Prop} {b : Bool} (e : EB ah n σ) (h6 : σ[6]? = some (some (.bl b))) : ER K ah F H N σ (evF n b) :=
  er_mk e rfl (eight (P := fun i s => SlotRep K ah F H N σ[i]? s) e.slot0 e.slot1 (.un _) (.un _) (.un _) (.un _) (by rw [h6]; exact .fz (.bl b)) (.un _)) fun i p h => eight (P := fun _ s => s ≠ .ow p) (by intro z; cases z) (by intro z; cases z) (by intro z; cases z) (by intro z; cases z) (by intro z; cases z) (by intro z; cases z) (by intro z; cases z) (by intro z; cases z) i _ h rfl
theorem EB.of {N : Addr → Prop} {a b c d e f : Slot} (E : ER K ah F H N σ [.fz .hand, .fz (.int n), a, b, c, d, e, f]) : EB ah n σ := by
  refine ⟨?_, ?_, E.len.symm⟩
  · have h := E.at_ 0 _ rfl
    generalize σ[0]? = v at h
    cases h with
    | fz r => cases r with | hand h => exact ⟨_, h, rfl⟩
  · have h := E.at_ 1 _ rfl
    generalize σ[1]? = v at h
    cases h with
    | fz r => cases r; rfl
/-- the list of lists as it stands -/
structure MX (ah : Ax) (F : Addr → Prop) (H H0 : Hp) (D : Addr) (R : List Addr) (rows : List (List Bool)) : Prop where
  d : H D = some (.lst (R.map V.ref))
  len : R.length = rows.length
  row : ∀ (k : Nat) r row, R[k]? = some r → rows[k]? = some row → H r = some (.lst (row.map V.bl)) ∧ row.length = R.length
  nd : (D :: R).Nodup
  nf : ∀ a ∈ D :: R, ¬ F a
  nh : ∀ a ∈ D :: R, ah.hd ≠ some a
  n0 : ∀ a ∈ D :: R, H0 a = none
  sz : R.length ≤ 100
theorem MX.has (m : MX ah F H H0 D R rows) : ∀ a ∈ D :: R, ∃ xs, H a = some (.lst xs) := fun a ha => by
  rcases List.mem_cons.mp ha with e | ha
  · rw [e]; exact ⟨_, m.d⟩
  · obtain ⟨k, hk, e⟩ := List.getElem_of_mem ha
    have h2 : k < rows.length := by rw [← m.len]; exact hk
    exact ⟨_, (m.row k a rows[k] (by rw [List.getElem?_eq_getElem hk, e]) (List.getElem?_eq_getElem h2)).1⟩
theorem MX.ext (m : MX ah F H H0 D R rows) (x : Ext K ah F H F' H') : MX ah F' H' H0 D R rows := by
  refine ⟨x.keep _ _ (m.nh D List.mem_cons_self) (fun _ z => by cases z) m.d, m.len, fun k r row h1 h2 => ?_, m.nd, fun a ha f => (x.new a f).elim (m.nf a ha) fun z => ?_, m.nh, m.n0, m.sz⟩
  · obtain ⟨e1, e2⟩ := m.row k r row h1 h2
    exact ⟨x.keep _ _ (m.nh r (List.mem_cons_of_mem _ (List.mem_of_getElem? h1))) (fun _ z => by cases z) e1, e2⟩
  · obtain ⟨xs, e⟩ := m.has a ha
    rw [z] at e; cases e
theorem nodup_at {l : List Addr} (h : l.Nodup) {i j : Nat} {a : Addr} (h1 : l[i]? = some a) (h2 : l[j]? = some a) : i = j :=
  (List.getElem?_inj (List.getElem?_eq_some_iff.mp h1).1 h).mp (h1.trans h2.symm)
theorem MX.put {i j : Nat} {r : Addr} {b : Bool} (m : MX ah F H H0 D R rows) (h1 : R[i]? = some r) : MX ah F (upd H r (.lst (((rows.getD i []).set j b).map V.bl))) H0 D R (mput rows i j b) := by
  have hr : r ∈ R := List.mem_of_getElem? h1
  have nD : D ≠ r := fun z => (List.nodup_cons.mp m.nd).1 (z ▸ hr)
  refine ⟨by rw [upd_ne nD]; exact m.d, by unfold mput; rw [List.length_set]; exact m.len, fun k r' row h2 h3 => ?_, m.nd, m.nf, m.nh, m.n0, m.sz⟩
  unfold mput at h3
  by_cases hk : k = i
  · subst hk
    rw [h1] at h2; cases h2
    have hlt : k < rows.length := by rw [← m.len]; exact (List.getElem?_eq_some_iff.mp h1).1
    rw [List.getElem?_set_self hlt] at h3
    cases h3
    refine ⟨upd_same, ?_⟩
    rw [List.length_set]
    rw [List.getD_eq_getElem?_getD, List.getElem?_eq_getElem hlt]
    exact (m.row k r rows[k] h1 (List.getElem?_eq_getElem hlt)).2
  · rw [List.getElem?_set_ne (Ne.symm hk)] at h3
    have ne : r' ≠ r := fun z => hk (nodup_at (List.nodup_cons.mp m.nd).2 (z ▸ h2) h1)
    rw [upd_ne ne]
    exact m.row k r' row h2 h3
structure MS (K : Fg) (ah : Ax) (F0 : Addr → Prop) (H0 : Hp) (n : Int) (D : Addr) (R : List Addr) (F : Addr → Prop) (H : Hp) (σ : L2.St) (hs : HS) (rows : List (List Bool)) : Prop where
  ext : Ext K ah F0 H0 F H
  gi : GI K ah F H hs
  eb : EB ah n σ
  s2 : σ[2]? = some (some (.ref D))
  mx : MX ah F H H0 D R rows
theorem MS.step (m : MS K ah F0 H0 n D R F H σ hs rows) (g0 : GI K ah F0 H0 hs0) (x : Ext K ah F H F' H') (g : GI K ah F' H' hs') : MS K ah F0 H0 n D R F' H' σ hs' rows :=
  ⟨m.ext.trans g0 m.gi x, g, m.eb, m.s2, m.mx.ext x⟩
theorem MS.set {i : Nat} {v : Option V} (m : MS K ah F0 H0 n D R F H σ hs rows) (h : 3 ≤ i) : MS K ah F0 H0 n D R F H (σ.set i v) hs rows :=
  ⟨m.ext, m.gi, m.eb.set (by omega), by rw [List.getElem?_set_ne (by omega)]; exact m.s2, m.mx⟩
theorem MS.put {i j : Nat} {r : Addr} {b : Bool} (m : MS K ah F0 H0 n D R F H σ hs rows) (h1 : R[i]? = some r) : MS K ah F0 H0 n D R F (upd H r (.lst (((rows.getD i []).set j b).map V.bl))) σ hs (mput rows i j b) ∧ Kp K F H F (upd H r (.lst (((rows.getD i []).set j b).map V.bl))) := by
  have hr : r ∈ D :: R := List.mem_cons_of_mem _ (List.mem_of_getElem? h1)
  obtain ⟨xs, hx⟩ := m.mx.has r hr
  have nf := m.mx.nf r hr
  have nh := m.mx.nh r hr
  have z0 := m.mx.n0 r hr
  refine ⟨⟨⟨m.ext.mono, m.ext.new, fun a u hn t h => ?_, fun a ps h => ?_⟩, m.gi.ownO hx trivial nf nh, m.eb, m.s2, m.mx.put h1⟩, .ownO hx trivial nf⟩
  · rw [upd_ne (ne_of_none h z0)]; exact m.ext.keep a u hn t h
  · rw [upd_ne (ne_of_none h z0)]; exact m.ext.tbl a ps h
abbrev tBit (K : Fg) (gf : EM) : TS := tAsg (tS K gf) (gName 6)
def gPr : EM := SL.gTup (SL.gCons (gVar 6) (SL.gCons (gNot (gVar 6)) SL.gNil))
abbrev tPr (K : Fg) : TS := tAsg (tS K gPr) (L2.gTup K 2 (L2.gCons (gSub (tOp (rIx K) (tVar 2) (tVar 3)) (tVar 4) rSetL) (L2.gCons (gSub (tOp (rIx K) (tVar 2) (tVar 4)) (tVar 3) rSetL) L2.gNil)))
theorem ixN_nat {m j : Nat} (h : j < m) : ixN m (j : Int) = some j := by
  unfold ixN
  rw [if_pos (by omega), if_pos (by omega)]
  rfl
theorem cell_w {p q : Nat} {i j : Nat} {b : Bool} {Q : L2.St → Hp → Prop} (m : MS K ah F0 H0 n D R F H σ hs rows) (h3 : σ[p]? = some (some (.int i))) (h4 : σ[q]? = some (some (.int j))) (hi : i < R.length) (hj : j < R.length)
    (k : ∀ H', MS K ah F0 H0 n D R F H' σ hs (mput rows i j b) → Kp K F H F H' → Q σ H') : gSub (tOp (rIx K) (tVar 2) (tVar p)) (tVar q) rSetL (.bl b) σ H Q := by
  have h1 : R[i]? = some R[i] := List.getElem?_eq_getElem hi
  have hlt : i < rows.length := by rw [← m.mx.len]; exact hi
  obtain ⟨hr, hl⟩ := m.mx.row i R[i] rows[i] h1 (List.getElem?_eq_getElem hlt)
  obtain ⟨m', k'⟩ := m.put (j := j) (b := b) h1
  refine ⟨.ref D, m.s2, .int i, h3, .inl ⟨D, R.map V.ref, i, .ref R[i], rfl, rfl, .of m.mx.d, ?_, ?_⟩⟩
  · unfold atI
    rw [List.length_map, ixN_nat hi]
    show (R.map V.ref)[i]? = _
    rw [List.getElem?_map, h1]; rfl
  · refine ⟨.int j, h4, R[i], rows[i].map V.bl, j, j, rfl, rfl, hr, by rw [List.length_map, hl]; exact ixN_nat hj, ?_⟩
    have e : (rows[i].map V.bl).set j (.bl b) = ((rows.getD i []).set j b).map V.bl := by
      rw [List.getD_eq_getElem?_getD, List.getElem?_eq_getElem hlt]
      show _ = (rows[i].set j b).map V.bl
      rw [List.map_set]
    rw [e]
    exact k _ m' k'
theorem gPr_is {b : Bool} : gPr (evF n b) = pure (.tup [.bl b, .bl (!b)]) := by
  unfold gPr
  simp
theorem body_w {gf : EM} {i j : Nat} {b : Bool} {DD : Ends} (g0 : GI K ah F0 H0 hs0) (m : MS K ah F0 H0 n D R F H σ hs rows) (h3 : σ[3]? = some (some (.int i))) (h4 : σ[4]? = some (some (.int j))) (hi : i < R.length) (hj : j < R.length)
    (q : (gf (evB n) >>= asBl) hs = .ok (b, hs')) (k : ∀ F' H' σ', MS K ah F0 H0 n D R F' H' σ' hs' (mput (mput rows i j b) j i (!b)) → σ'[3]? = some (some (.int i)) → Kp K F H F' H' → DD.nx σ' H') : tSeq (tBit K gf) (tPr K) DD σ H := by
  obtain ⟨p, h1, q1, q2⟩ := M.bind_ok q
  obtain rfl : p = .bl b := (asBl_ok q2).1
  obtain rfl : hs' = h1 := (asBl_ok q2).2
  refine ⟨ah, F, fun a => H0 a = none, evB n, hs, .bl b, hs', m.gi, er_b m.eb, q1, fun F1 H1 v x1 G1 r1 => ?_⟩
  obtain rfl : v = .bl b := (Con.rep r1).bl
  have m1 := (m.step g0 x1 G1).set (i := 6) (v := some (.bl b)) (by decide)
  have l6 : 6 < σ.length := by rw [m.eb.len]; decide
  have e3 : (σ.set 6 (some (.bl b)))[3]? = some (some (.int i)) := by rw [List.getElem?_set_ne (by decide)]; exact h3
  have e4 : (σ.set 6 (some (.bl b)))[4]? = some (some (.int j)) := by rw [List.getElem?_set_ne (by decide)]; exact h4
  show tPr K DD (σ.set 6 (some (.bl b))) H1
  refine ⟨ah, F1, fun a => H0 a = none, evF n b, hs', .tup [.bl b, .bl (!b)], hs', G1, er_f m1.eb (List.getElem?_set_self l6), congrFun gPr_is hs', fun F2 H2 v x2 G2 r2 => ?_⟩
  obtain ⟨a, vs, rfl, ha, z, rr⟩ := (Con.rep r2).tup
  have m2 := m1.step g0 x2 G2
  cases rr with
  | cons ra rr =>
    cases rr with
    | cons rb rr =>
      cases rr
      cases ra
      cases rb
      refine ⟨a, _, rfl, .of ha, rfl, .bl b, [.bl (!b)], rfl, ?_⟩
      refine cell_w m2 e3 e4 hi hj fun H3 m3 k3 => ⟨.bl (!b), [], rfl, cell_w m3 e4 e3 hj hi fun H4 m4 k4 => ⟨rfl, ?_⟩⟩
      exact k _ _ _ m4 e3 ((m.gi.kp x1).trans ((G1.kp x2).trans (k3.trans k4)))
theorem rngN (i : Nat) (j : Nat) (h : j < i) : (rng 0 i)[j]? = some (.int j) := by
  simp [rng, h]
theorem rngL (i : Nat) : (rng 0 i).length = i := by simp [rng]
theorem inner_w {gf : EM} {i : Nat} {rows' : List (List Bool)} {DD : Ends} (g0 : GI K ah F0 H0 hs0) (m : MS K ah F0 H0 n D R F H σ hs rows) (h3 : σ[3]? = some (some (.int i))) (hi : i < R.length)
    (q : mxRow (gf (evB n) >>= asBl) i (List.range i) rows hs = .ok (rows', hs')) (k : ∀ F' H' σ', MS K ah F0 H0 n D R F' H' σ' hs' rows' → Kp K F H F' H' → DD.nx σ' H') :
    tFor (tSI K (iRange (SL.gCons (gVar 3) SL.gNil))) (gName 4) (tSeq (tBit K gf) (tPr K)) DD σ H := by
  have hz := m.mx.sz
  have eI : iRange (SL.gCons (gVar 3) SL.gNil) (evI n i) hs = .ok (rng 0 i, hs) := by
    have : iRange (SL.gCons (gVar 3) SL.gNil) (evI n i) = pure (rng 0 i) := by
      simp
      rw [guard_pos (by omega)]
    rw [this]; rfl
  refine ⟨ah, F, fun a => H0 a = none, evI n i, hs, rng 0 i, hs, m.gi, er_i m.eb h3, eI, fun F1 H1 J x1 G1 I1 zl => ?_⟩
  have m1 := m.step g0 x1 G1
  have k1 := m.gi.kp x1
  refine ⟨fun j c σ2 H2 => c = i - j ∧ j ≤ i ∧ ∃ F2 hs2 rows2, MS K ah F0 H0 n D R F2 H2 σ2 hs2 rows2 ∧ σ2[3]? = some (some (.int i)) ∧ Kp K F1 H1 F2 H2 ∧ mxRow (gf (evB n) >>= asBl) i ((List.range i).drop j) rows2 hs2 = .ok (rows', hs'), ⟨i, by simp, Nat.zero_le _, F1, hs, rows, m1, h3, .refl, q⟩, ?_⟩
  rintro j c σ2 H2 ⟨rfl, hj, F2, hs2, rows2, m2, e3, k2, q⟩
  by_cases hlt : j < i
  · refine .inr ⟨I1.goes j F2 H2 k2 (by rw [rngL]; exact hlt), fun σ3 H3 => ∃ c', c' < i - j ∧ c' = i - (j + 1) ∧ j + 1 ≤ i ∧ ∃ F2 hs2 rows2, MS K ah F0 H0 n D R F2 H3 σ3 hs2 rows2 ∧ σ3[3]? = some (some (.int i)) ∧ Kp K F1 H1 F2 H3 ∧ mxRow (gf (evB n) >>= asBl) i ((List.range i).drop (j + 1)) rows2 hs2 = .ok (rows', hs'), fun σ3 H3 z => z, fun x H3 y => ?_⟩
    obtain ⟨p, hp, x3, G3, rx⟩ := I1.yields j F2 H2 hs2 x H3 k2 m2.gi (by rw [rngL]; exact hlt) y
    rw [rngN i j hlt] at hp
    cases hp
    obtain rfl : x = .int j := (Con.rep rx).int
    have ed : (List.range i).drop j = j :: (List.range i).drop (j + 1) := by
      rw [List.drop_eq_getElem_cons (by rw [List.length_range]; exact hlt), List.getElem_range]
    rw [ed] at q
    obtain ⟨b, h4, q4, q5⟩ := M.bind_ok q
    have m3 := (m2.step g0 x3 G3).set (i := 4) (v := some (.int j)) (by decide)
    have l4 : 4 < σ2.length := by rw [m2.eb.len]; decide
    refine body_w g0 m3 (by rw [List.getElem?_set_ne (by decide)]; exact e3) (List.getElem?_set_self l4) hi (by omega) q4 fun F4 H4 σ4 m4 e4 k4 => ?_
    exact ⟨_, by omega, rfl, hlt, F4, h4, _, m4, e4, k2.trans ((m2.gi.kp x3).trans k4), q5⟩
  · have e : j = i := by omega
    subst e
    rw [List.drop_eq_nil_of_le (by simp)] at q
    cases M.pure_ok q
    exact .inl ⟨by have := I1.stops F2 H2 k2; rw [rngL] at this; exact this, k _ _ _ m2 (k1.trans k2)⟩
theorem outer_w {gf : EM} {N : Nat} {rows' : List (List Bool)} {DD : Ends} (hn : n = N) (g0 : GI K ah F0 H0 hs0) (m : MS K ah F0 H0 n D R F H σ hs rows) (hN : R.length = N)
    (q : mxAll (gf (evB n) >>= asBl) (List.range N) rows hs = .ok (rows', hs')) (k : ∀ F' H' σ', MS K ah F0 H0 n D R F' H' σ' hs' rows' → Kp K F H F' H' → DD.nx σ' H') :
    tFor (tSI K (iRange (SL.gCons (gVar 1) SL.gNil))) (gName 3) (tFor (tSI K (iRange (SL.gCons (gVar 3) SL.gNil))) (gName 4) (tSeq (tBit K gf) (tPr K))) DD σ H := by
  have hz := m.mx.sz
  have eI : iRange (SL.gCons (gVar 1) SL.gNil) (evB n) hs = .ok (rng 0 N, hs) := by
    have : iRange (SL.gCons (gVar 1) SL.gNil) (evB n) = pure (rng 0 N) := by
      subst hn
      simp
      rw [guard_pos (by omega)]
    rw [this]; rfl
  refine ⟨ah, F, fun a => H0 a = none, evB n, hs, rng 0 N, hs, m.gi, er_b m.eb, eI, fun F1 H1 J x1 G1 I1 zl => ?_⟩
  have m1 := m.step g0 x1 G1
  have k1 := m.gi.kp x1
  refine ⟨fun i c σ2 H2 => c = N - i ∧ i ≤ N ∧ ∃ F2 hs2 rows2, MS K ah F0 H0 n D R F2 H2 σ2 hs2 rows2 ∧ Kp K F1 H1 F2 H2 ∧ mxAll (gf (evB n) >>= asBl) ((List.range N).drop i) rows2 hs2 = .ok (rows', hs'), ⟨N, by simp, Nat.zero_le _, F1, hs, rows, m1, .refl, q⟩, ?_⟩
  rintro i c σ2 H2 ⟨rfl, hi, F2, hs2, rows2, m2, k2, q⟩
  by_cases hlt : i < N
  · refine .inr ⟨I1.goes i F2 H2 k2 (by rw [rngL]; exact hlt), fun σ3 H3 => ∃ c', c' < N - i ∧ c' = N - (i + 1) ∧ i + 1 ≤ N ∧ ∃ F2 hs2 rows2, MS K ah F0 H0 n D R F2 H3 σ3 hs2 rows2 ∧ Kp K F1 H1 F2 H3 ∧ mxAll (gf (evB n) >>= asBl) ((List.range N).drop (i + 1)) rows2 hs2 = .ok (rows', hs'), fun σ3 H3 z => z, fun x H3 y => ?_⟩
    obtain ⟨p, hp, x3, G3, rx⟩ := I1.yields i F2 H2 hs2 x H3 k2 m2.gi (by rw [rngL]; exact hlt) y
    rw [rngN N i hlt] at hp
    cases hp
    obtain rfl : x = .int i := (Con.rep rx).int
    have ed : (List.range N).drop i = i :: (List.range N).drop (i + 1) := by
      rw [List.drop_eq_getElem_cons (by rw [List.length_range]; exact hlt), List.getElem_range]
    rw [ed] at q
    obtain ⟨r, h4, q4, q5⟩ := M.bind_ok q
    have m3 := (m2.step g0 x3 G3).set (i := 3) (v := some (.int i)) (by decide)
    have l3 : 3 < σ2.length := by rw [m2.eb.len]; decide
    refine inner_w g0 m3 (List.getElem?_set_self l3) (by omega) q4 fun F4 H4 σ4 m4 k4 => ?_
    exact ⟨_, by omega, rfl, hlt, F4, h4, _, m4, k2.trans ((m2.gi.kp x3).trans k4), q5⟩
  · have e : i = N := by omega
    subst e
    rw [List.drop_eq_nil_of_le (by simp)] at q
    cases M.pure_ok q
    exact .inl ⟨by have := I1.stops F2 H2 k2; rw [rngL] at this; exact this, k _ _ _ m2 (k1.trans k2)⟩
/-- shared at last -/
theorem MS.frz (m : MS K ah F0 H0 n D R F H σ hs rows) (g0 : GI K ah F0 H0 hs0) : ∃ F', SInv K ah F0 H0 F' H σ [.fz .hand, .fz (.int n), .fz (matP rows), .un, .un, .un, .un, .un] hs ∧ Kp K F H F' H := by
  have hz := m.mx.sz
  have key : ∀ l : List Addr, (∀ a ∈ l, a ∈ D :: R) → GI K ah (fun b => F b ∨ b ∈ l) H hs := by
    intro l
    induction l with
    | nil => intro _; simpa using m.gi
    | cons a l ih =>
      intro h
      have g := ih fun b hb => h b (List.mem_cons_of_mem _ hb)
      have ha := h a List.mem_cons_self
      obtain ⟨xs, e⟩ := m.mx.has a ha
      have g' := g.frz (a := a) (o := .lst xs) ⟨e, fun _ z => by cases z⟩ (m.mx.nh a ha)
      have ef : (fun b => (F b ∨ b ∈ l) ∨ b = a) = fun b => F b ∨ b ∈ a :: l := by
        funext b
        rw [List.mem_cons, eq_iff_iff]
        constructor
        · rintro ((h | h) | h)
          · exact .inl h
          · exact .inr (.inr h)
          · exact .inr (.inl h)
        · rintro (h | h | h)
          · exact .inl (.inl h)
          · exact .inr h
          · exact .inl (.inr h)
      rw [ef] at g'
      exact g'
  have G := key (D :: R) fun _ h => h
  have bls : ∀ r : List Bool, Reps K ah (fun b => F b ∨ b ∈ D :: R) H (r.map V.bl) (r.map PV.bl) := by
    intro r
    induction r with
    | nil => exact .nil
    | cons b r ih => exact .cons (.bl b) ih
  have rr : ∀ (R' : List Addr) (rows' : List (List Bool)), (∀ a ∈ R', a ∈ R) → R'.length = rows'.length → (∀ (k : Nat) r row, R'[k]? = some r → rows'[k]? = some row → H r = some (.lst (row.map V.bl)) ∧ row.length = R.length) → Reps K ah (fun b => F b ∨ b ∈ D :: R) H (R'.map V.ref) (rows'.map fun r => .lst (r.map PV.bl)) := by
    intro R'
    induction R' with
    | nil => intro rows' _ hl _; cases rows' with
      | nil => exact .nil
      | cons _ _ => cases hl
    | cons a R' ih =>
      intro rows' hs hl hr
      cases rows' with
      | nil => cases hl
      | cons row rows' =>
        obtain ⟨e1, e2⟩ := hr 0 a row rfl rfl
        refine .cons (.lst (.inr (List.mem_cons_of_mem _ (hs a List.mem_cons_self))) e1 (by rw [List.length_map, e2, szE]; show R.length ≤ SZ; rw [SZ_is]; omega) (bls row)) (ih rows' (fun b hb => hs b (List.mem_cons_of_mem _ hb)) (by simpa using hl) fun k r row h1 h2 => hr (k + 1) r row h1 h2)
  refine ⟨fun b => F b ∨ b ∈ D :: R, ⟨⟨_, g0⟩, ⟨fun b h => .inl (m.ext.mono b h), fun b h => h.elim (m.ext.new b) fun h => .inr (m.mx.n0 b h), m.ext.keep, m.ext.tbl⟩, G, ?_⟩, ⟨fun _ h => .inl h, fun _ _ _ h => h, fun _ _ h => h, fun _ _ _ h => h, fun _ _ h => h, fun _ _ h => h⟩⟩
  refine er_mk m.eb rfl (eight (P := fun i s => SlotRep K ah (fun b => F b ∨ b ∈ D :: R) H (fun a => H0 a = none) σ[i]? s) m.eb.slot0 m.eb.slot1 ?_ (.un _) (.un _) (.un _) (.un _) (.un _)) fun i p h => eight (P := fun _ s => s ≠ .ow p) (by intro z; cases z) (by intro z; cases z) (by intro z; cases z) (by intro z; cases z) (by intro z; cases z) (by intro z; cases z) (by intro z; cases z) (by intro z; cases z) i _ h rfl
  rw [m.s2]
  exact .fz (.lst (.inr List.mem_cons_self) m.mx.d (by rw [List.length_map, szE]; show R.length ≤ SZ; rw [SZ_is]; omega) (rr R rows (fun _ h => h) m.mx.len m.mx.row))
def gRw : EM := gBin pRepL (SL.gLst (SL.gCons (gC (.bl false)) SL.gNil)) (gVarB 1)
theorem gRw_is {N : Nat} {s : Slot} (hN : N ≤ 100) : gRw [.fz .hand, .fz (.int N), .un, .un, .un, s, .un, .un] = pure (.lst (List.replicate N (.bl false))) := by
  have e : gRw [.fz .hand, .fz (.int N), .un, .un, .un, s, .un, .un] = pRepL (.lst [.bl false]) (.int N) := by
    unfold gRw
    simp
  rw [e]
  show guardM _ (pure (PV.lst (repL (N : Int) [.bl false]))) = _
  rw [guard_pos ⟨by omega, by omega, by show 1 * N ≤ SZ; rw [SZ_is]; omega⟩]
  have : repL (N : Int) [PV.bl false] = List.replicate N (.bl false) := by
    show (List.replicate N [PV.bl false]).flatten = _
    induction N with
    | zero => rfl
    | succ k ih => rw [List.replicate_succ, List.flatten_cons, List.replicate_succ]; rw [ih (by omega) (by unfold gRw; simp)]; rfl
  rw [this]
theorem comp_w {N : Nat} {ρ : Ev} {DD : Ends} (hn : n = N) (hN : N ≤ 100) (I : SInv K ah F0 H0 F H σ ρ hs) (eb : EB ah n σ) (l2 : 2 < σ.length)
    (k : ∀ F' H' D R, MS K ah F0 H0 n D R F' H' (σ.set 2 (some (.ref D))) hs (List.replicate N (List.replicate N false)) → R.length = N → Kp K F H F' H' → DD.nx (σ.set 2 (some (.ref D))) H') :
    tAsg (tLc (tSI K (iRange (SL.gCons (gVar 1) SL.gNil))) (tSG K (tgName 5) [5]) (tST K gYes) (tSF K gRw) [5]) (gName 2) DD σ H := by
  have eI : iRange (SL.gCons (gVar 1) SL.gNil) (evB n) hs = .ok (rng 0 N, hs) := by
    have : iRange (SL.gCons (gVar 1) SL.gNil) (evB n) = pure (rng 0 N) := by
      subst hn
      simp
      rw [guard_pos (by omega)]
    rw [this]; rfl
  have ebw : EB ah n (L2.wipe σ [5]) := eb.wipe (by simp)
  refine ⟨ah, F, fun a => H0 a = none, evB n, hs, rng 0 N, hs, I.gi, er_b eb, eI, fun F1 H1 J x1 G1 I1 zl D nD => ?_⟩
  have I0 := I.step x1 G1
  have nA : ah.hd ≠ some D := G1.ne nD
  refine ⟨fun i m H2 => m = N - i ∧ i ≤ N ∧ ∃ F2 R, Ext K ah F1 H1 F2 H2 ∧ GI K ah F2 H2 hs ∧ ¬ F2 D ∧ H2 D = some (.lst (R.map V.ref)) ∧ R.length = i ∧ (∀ r ∈ R, H2 r = some (.lst (List.replicate N (.bl false))) ∧ ¬ F2 r ∧ H1 r = none) ∧ (D :: R).Nodup,
    ⟨N, by simp, Nat.zero_le _, F1, [], .laid nD, G1.laid nD, G1.nf nD, upd_same, rfl, (fun _ h => by cases h), by simp⟩, ?_⟩
  rintro i m H2 ⟨rfl, hi, F2, R, x2, G2, nf, hD, hl, hR, nd⟩
  have kp := G1.kp x2
  by_cases hlt : i < N
  · refine .inr ⟨I1.goes i F2 H2 kp (by rw [rngL]; exact hlt), fun H3 => ∃ m', m' < N - i ∧ m' = N - (i + 1) ∧ i + 1 ≤ N ∧ ∃ F2 R, Ext K ah F1 H1 F2 H3 ∧ GI K ah F2 H3 hs ∧ ¬ F2 D ∧ H3 D = some (.lst (R.map V.ref)) ∧ R.length = i + 1 ∧ (∀ r ∈ R, H3 r = some (.lst (List.replicate N (.bl false))) ∧ ¬ F2 r ∧ H1 r = none) ∧ (D :: R).Nodup, fun H3 z => z, fun x H3 y => ?_⟩
    obtain ⟨p, hp, x3, G3, rx⟩ := I1.yields i F2 H2 hs x H3 kp G2 (by rw [rngL]; exact hlt) y
    rw [rngN N i hlt] at hp
    cases hp
    have x13 := x2.trans G1 G2 x3
    refine ⟨ah, F2, fun a => H0 a = none, evB n, hs, .int i, (evB n).set 5 (.fz (.int i)), hs, G3, er_b ebw, rx, rfl, fun σ' E' ww e => ⟨(ww [5] (by simp)).trans (wipe_wipe σ [5]), ?_⟩⟩
    try subst e
    refine ⟨ah, F2, fun a => H0 a = none, _, hs, true, hs, G3, E', rfl, fun F4 H4 x4 G4 => iteT ?_⟩
    refine ⟨ah, F4, fun a => H0 a = none, _, hs, .lst (List.replicate N (.bl false)), hs, G4, E'.ext G3 x4, by rw [hn]; exact congrFun (gRw_is hN) hs, fun F5 H5 a x5 G5 na nfa own => ?_⟩
    have x34 := x3.trans G2 G3 x4
    have x35 := x34.trans G2 G4 x5
    have x15 := x2.trans G1 G2 x35
    have keep : ∀ b xs, ah.hd ≠ some b → H2 b = some (.lst xs) → H4 b = some (.lst xs) ∧ H5 b = some (.lst xs) := fun b xs hb h => ⟨x34.keep _ _ hb (fun _ z => by cases z) h, x35.keep _ _ hb (fun _ z => by cases z) h⟩
    have notF : ∀ b xs, ¬ F2 b → H2 b = some (.lst xs) → ¬ F5 b := fun b xs hf h f => (x35.new b f).elim hf fun z => by rw [h] at z; cases z
    have hD5 := (keep D _ nA hD).2
    have hD4 := (keep D _ nA hD).1
    cases own with
    | lst h z rr =>
      have ev : ∀ (k : Nat) (vs : List V), Reps K ah F5 H5 vs (List.replicate k (.bl false)) → vs = List.replicate k (.bl false) := by
        intro k
        induction k with
        | zero => intro vs r; cases r; rfl
        | succ k ih =>
          intro vs r
          rw [List.replicate_succ] at r
          cases r with
          | cons r1 r2 => cases r1; rw [ih _ r2]; rfl
      rw [ev N _ rr] at h
      refine ⟨R.map V.ref, hD5, by rw [List.length_map, szE]; show R.length < SZ; rw [SZ_is]; omega, _, by omega, rfl, hlt, F5, R ++ [a], ⟨x15.mono, x15.new, fun b u n t h => ?_, fun b ps h => ?tb⟩, G5.ownO hD5 trivial (notF D _ nf hD) nA, notF D _ nf hD, by rw [upd_same, List.map_append]; rfl, by rw [List.length_append, hl]; rfl, fun r hr => ?_, ?_⟩
      case tb =>
        rw [upd_ne (ne_of_none h nD)]; exact x15.tbl b ps h
      · rw [upd_ne (ne_of_none h nD)]; exact x15.keep b u n t h
      · have nDr : r ≠ D := fun z => by
          rcases List.mem_append.mp hr with h' | h'
          · exact (List.nodup_cons.mp nd).1 (z ▸ h')
          · rw [List.mem_singleton.mp h'] at z
            rw [z, hD4] at na; cases na
        rw [upd_ne nDr]
        rcases List.mem_append.mp hr with h' | h'
        · obtain ⟨e1, e2, e3⟩ := hR r h'
          exact ⟨(keep r _ (G1.ne e3) e1).2, notF r _ e2 e1, e3⟩
        · rw [List.mem_singleton.mp h']
          refine ⟨h, nfa, ?_⟩
          have hne : ah.hd ≠ some a := G4.ne na
          exact Ext.free G1 (x2.trans G1 G2 x34) na hne
      · rw [← List.cons_append, List.nodup_append]
        refine ⟨nd, by simp, fun b hb c hc z => ?_⟩
        rw [List.mem_singleton.mp hc] at z
        rcases List.mem_cons.mp hb with h' | h'
        · rw [← z, h', hD4] at na; cases na
        · obtain ⟨e1, e2, e3⟩ := hR b h'
          rw [← z, (keep b _ (G1.ne e3) e1).1] at na; cases na
  · have e : i = N := by omega
    subst e
    refine .inl ⟨by have := I1.stops F2 H2 kp; rw [rngL] at this; exact this, ?_⟩
    have gg := I0.g0
    refine k F2 H2 D R ⟨I0.ext.trans gg.choose_spec G1 x2, G2, eb.set (by decide), List.getElem?_set_self l2, ⟨hD, by rw [hl, List.length_replicate], fun k r row h1 h2 => ?_, nd, fun a ha => ?_, fun a ha => ?_, fun a ha => ?_, by omega⟩⟩ hl ((I.gi.kp x1).trans kp)
    · have hr := hR r (List.mem_of_getElem? h1)
      have er : row = List.replicate i false := by
        have := List.mem_of_getElem? h2
        exact (List.mem_replicate.mp this).2
      rw [er, hl, List.length_replicate]
      exact ⟨by rw [hr.1, List.map_replicate], rfl⟩
    · rcases List.mem_cons.mp ha with h' | h'
      · rw [h']; exact nf
      · exact (hR a h').2.1
    · rcases List.mem_cons.mp ha with h' | h'
      · rw [h']; exact nA
      · exact G1.ne (hR a h').2.2
    · rcases List.mem_cons.mp ha with h' | h'
      · rw [h']; exact I0.new nD
      · exact I0.new (hR a h').2.2
end
section
variable {X : Cx} {W : EW} {st2 st3 : Stmt} {rest : List Stmt} {gf : EM} {g2 : SM}
theorem sss_mx (h2 : PS X st2 (tAsg (tLc (tSI X.K (iRange (SL.gCons (gVar 1) SL.gNil))) (tSG X.K (tgName 5) [5]) (tST X.K gYes) (tSF X.K gRw) [5]) (gName 2)))
    (h3 : PS X st3 (tFor (tSI X.K (iRange (SL.gCons (gVar 1) SL.gNil))) (gName 3) (tFor (tSI X.K (iRange (SL.gCons (gVar 3) SL.gNil))) (gName 4) (tSeq (tBit X.K gf) (tPr X.K)))))
    (hr : SSs X W rest g2) : SSs X W (st2 :: st3 :: rest) (sSeq (sMx gf) g2) := PSs.wk (pss_cons h2 (pss_cons h3 hr)) fun DD σ H ⟨ah, F0, H0, F, ρ, hs, out, hs', I, q, f⟩ => by
  obtain ⟨o, h1, q1, q⟩ := M.bind_ok q
  unfold sMx at q1
  split at q1
  · rename_i n _ _ _ _ _ _
    obtain ⟨⟨c1, c2⟩, q1⟩ := guard_ok q1
    obtain ⟨rows, h3, q3, q1⟩ := M.bind_ok q1
    cases M.pure_ok q1
    have eb : EB ah n σ := EB.of I.er
    obtain ⟨hs0, g0⟩ := I.g0
    refine comp_w (N := n.toNat) (by omega) (by omega) I eb (by rw [eb.len]; decide) fun F1 H1 D R m1 hR k1 => ?_
    refine outer_w (N := n.toNat) (by omega) g0 m1 hR q3 fun F2 H2 σ2 m2 k2 => ?_
    obtain ⟨F3, I3, k3⟩ := m2.frz g0
    exact ⟨ah, F0, H0, F3, _, _, out, hs', I3, q, f.kp (k1.trans (k2.trans k3))⟩
  · cases q1
end
end SL

end
section
/-! SMv: tuples known to have no dict of their own (ptp): tuple(list), t.count(e) -/
namespace L2
open PySem PySem.Spec PyProof.Rows
section
variable {X : Cx}
def rCntT (K : PySem.W.Frag) : V → List V → Hp → VK → Prop := fun x xs H Q => ∃ (a : Addr) (ys : List V) (y : V), x = V.ref a ∧ xs = [y] ∧ SqT K H a ys ∧ flatV y = true ∧ ys.all flatV = true ∧ Q (.int ((ys.countP fun z => eqV z y : Nat) : Int)) H
theorem mt_tcount : MtR X "tuple.count" (rCntT X.K) := by
  intro pins s σ H x xs v us Q I rx rxs h
  obtain ⟨a, ys, y, rfl, rfl, hs, fy, fys, q⟩ := h
  cases rx
  obtain ⟨uy, rfl, ry⟩ := vals1 rxs
  obtain ⟨its, rv, pl, hz⟩ := I.tuple hs
  obtain ⟨⟨cls, dd, dt, sl⟩, ho, hc, n, hd⟩ := pl
  simp only at hc hd
  subst hc
  subst hd
  refine call_meets PySem.F.slot_tuple_count ⟨_, ho, rfl⟩ PySem.F.entry_tuple_count (PySem.F.args_tuple_count_2 _ _)
    (SeqAt.tuple_countAt a its.toArray n dd sl uy (eqU y)) ⟨ho, fun u' hu' => mem_eqAt ry fy rv fys u' (by simpa using hu'), ?_⟩
  have ec : its.toArray.toList.countP (eqU y) = ys.countP fun z => eqV z y := countU ry rv fys
  refine ⟨.int (ys.countP fun z => eqV z y : Nat), H, I.tok _, ⟨s.toks, ?_⟩, q⟩
  show Value.int ((its.toArray.toList.countP (eqU y) : Nat) : Int) s.toks = Value.int ((ys.countP fun z => eqV z y : Nat) : Int) s.toks
  rw [ec]
theorem call_tupleP : CallR X (.type "tuple") (fun xs H Q => ∃ p ys, xs = [.ref p] ∧ SqL X.K H p ys ∧ ∀ l (o : Obj), H l = none → o.dict = none → Q (.ref l) (upd H l (.frz o (.tup ys)))) := by
  intro pins s σ H xs us Q I r h
  obtain ⟨p, ys, rfl, hq, q⟩ := h
  obtain ⟨u, rfl, rx⟩ := vals1 r
  cases rx
  obtain ⟨its, r', pl, hz⟩ := I.list hq
  have hlen := r'.length
  refine call_tuple_list pl.isList (fun h' kp => ?_) (by simp only [List.size_toArray] <;> omega)
  have I1 : Inv X pins σ H { s with heap := h' } := I.kept (t' := s.toks) kp
  have I2 : Inv X pins σ (upd H h'.objs.size (.frz { cls := .type "tuple", data := .seq its.toArray } (.tup ys))) { s with heap := h'.push { cls := .type "tuple", data := .seq its.toArray } } :=
    I1.laid (t' := s.toks) (fun b o e => Heap.get?_push_of_some _ e) (Nat.le_refl _) (show ObjOk X.prog X.w _ _ _ (.frz _ (.tup ys)) from ⟨Heap.get?_push_size _ rfl, hz, its, r', IsTup.new _ _⟩)
  exact ⟨.ref h'.objs.size, _, I2, rfl, q _ _ (I1.hok.fresh (Nat.le_refl _)) rfl⟩
def tBMT (r : V → List V → Hp → VK → Prop) (to : TE) (t : TA) : TE := fun σ H Q => to σ H fun x H1 => (∃ a ob vs, x = V.ref a ∧ H1 a = some (.frz ob (.tup vs)) ∧ ob.dict = none) ∧ t σ H1 fun xs H2 => r x xs H2 Q
variable {o e : Expr} {es : List Expr} {to : TE} {t : TA} {name : Str} {apos cpos : Pos} {id : String} {r : V → List V → Hp → VK → Prop}
theorem pe_bmT (slot : Slot "tuple" name id) (hty : typeOf (.builtin id) = pure (.type "method_descriptor")) (hm : MtR X id r) (ho : PE X o to) (ha : PA X (e :: es) t)
    (hbase : attributeBase o name X.env (eval o X.env) = eval o X.env := by rfl)
    (hfew : ((backTo cpos (starEach (e :: es) X.env)).all (fun x => !x.1) && (backToKw cpos (keywordEach [] X.env)).all (fun x => x.1.isSome)
      && decide ((e :: es).length + ([] : List Keyword).length + (if ([] : List Keyword).isEmpty then 0 else 1) < 30)) = true := by rfl)
    (hline : (apos.endLine == cpos.line) = true := by rfl) (hs : starEach (e :: es) X.env = (false, eval e X.env) :: starEach es X.env := by rfl) (hplain : (backTo cpos (starEach es X.env)).any (·.1) = false := by rfl) :
    PE X (.Call (.Attribute o name apos) (e :: es) [] cpos) (tBMT r to t) := by
  refine ⟨fun pins s σ H Q I h => ?_⟩
  refine wpAny_Call_method_late hbase hfew hline rfl (thn (ho.run pins s σ H _ I h) fun v s1 ⟨x, H1, I1, r1, ty, q1⟩ => ?_)
  obtain ⟨a, ob, vs, ex, hH, nd⟩ := ty
  subst ex
  obtain rfl : v = Value.ref a := r1
  obtain ⟨hg, _, its, rv, o2, ho2, hc2, _⟩ := (show ObjOk X.prog X.w H1 s1.heap a (.frz ob (.tup vs)) from I1.hok a _ hH)
  have eo : o2 = ob := by rw [hg] at ho2; exact (Option.some.inj ho2).symm
  refine ⟨"tuple", id, PySem.F.plainAttrs_tuple, slot, hty, ⟨ob, hg, by rw [← eo]; exact hc2⟩, (fun b e => by cases e; exact ⟨ob, hg, nd⟩), ?_⟩
  have hA := ha.run cpos pins s1 σ H1 _ I1 q1
  rw [hs] at hA ⊢
  refine Calls.callWith_builtin (by show (false || (backTo cpos (starEach es X.env)).any (·.1)) = false; rw [hplain] <;> rfl) (Calls.evalArgs_plain ?_)
  exact thn hA fun us s2 ⟨vs2, H2, I2, r2, q2⟩ => hm pins s2 σ H2 (.ref a) vs2 _ us Q I2 rfl r2 q2
end
end L2
namespace SL
open PySem PySem.Spec PyProof.Rows L2 LamX NdefX
variable [Tbs]
def pTupP : List PV → M PV
  | [.lst l] => pure (.ptp l)
  | _ => stuck
section
variable {X : Cx}
theorem cs_tupP : CallS X (fun xs H Q => ∃ p ys, xs = [.ref p] ∧ SqL X.K H p ys ∧ ∀ l (o : Obj), H l = none → o.dict = none → Q (.ref l) (upd H l (.frz o (.tup ys)))) pTupP := fun ah F H hs hs' xs ps z Q G c e k => by
  unfold pTupP at e
  split at e
  · cases M.pure_ok e
    cases c with | cons c t => cases t; obtain ⟨a, vs, rfl, h, z, r⟩ := c.lst; exact ⟨a, vs, rfl, .of h, fun l o n nd => k F _ _ (.laid n) (G.laid n) (.ptp upd_same nd z (r.mono (G.kpL n)))⟩
  · cases e
theorem se_tupP {e : Expr} {es : List Expr} {p pos : Pos} {gs : Ev → M (List PV)} (hm : X.mg "tuple" = none) (ha : SAB X (e :: es) gs) (hg : Gl X "tuple" := by rfl) (he : starEach (e :: es) X.env = (false, eval e X.env) :: starEach es X.env := by rfl) (hpl : (backTo pos (starEach es X.env)).any (·.1) = false := by rfl) : SE X (.Call (.Name "tuple" p) (e :: es) [] pos) (gB pTupP gs) :=
  se_B cs_tupP (pe_callTy call_tupleP hg hm (by decide +kernel) ha (by decide) (by decide) he hpl)
def isPtp : PV → Bool
  | .ptp _ => true
  | _ => false
def pCntP : PV → List PV → M PV
  | .ptp l, [y] => guardM (flatP y = true ∧ l.all flatP = true) (pure (.int ((l.countP fun z => eqP z y : Nat) : Int)))
  | _, _ => stuck
theorem ms_cntP : MethS X (rCntT X.K) pCntP := fun ah F H hs hs' x xs p ps z Q G c cs e k => by
  unfold pCntP at e
  split at e
  · obtain ⟨⟨f1, f2⟩, e⟩ := guard_ok e
    cases M.pure_ok e
    cases cs with | cons d t => ?_
    cases t
    obtain ⟨a, o, vs, rfl, h, _, _, r⟩ := c.ptp
    have rd := flat_con d f1
    obtain ⟨hfa, _⟩ := flat_all rd f1 r f2
    refine ⟨a, vs, _, rfl, rfl, sqt_ptp h, flat_one rd f1, hfa, ?_⟩
    rw [cnt_reps rd f1 r f2]
    exact k F H _ .refl G (.int _)
  · cases e
theorem meth_wT {K : Fg} {r : V → List V → Hp → VK → Prop} {fp : PV → List PV → M PV} {g : EM} {gs : Ev → M (List PV)} (hm : MethS X r fp) (σ : L2.St) (H : Hp) (Q : VK) (h : tS X.K (gMeth isPtp fp g gs) σ H Q) : tBMT r (tSB X.K g) (tSAB X.K gs) σ H Q := by
  obtain ⟨ah, F, N, ρ, hs, p, hs', G, E, q, k⟩ := h
  obtain ⟨x, h1, q1, q⟩ := M.bind_ok q
  obtain ⟨ho, q⟩ := guard_ok q
  obtain ⟨xs, h2, q2, q⟩ := M.bind_ok q
  refine ⟨ah, F, N, ρ, hs, x, h1, G, E, q1, fun F1 H1 v1 x1 G1 r1 => ?_⟩
  have E1 := E.ext G x1
  have c1 := r1.con E1
  refine ⟨?_, ah, F1, N, ρ, h1, xs, h2, G1, E1, q2, fun F2 H2 v2 x2 G2 r2 => ?_⟩
  · cases x <;> first | (cases ho; done) | skip
    obtain ⟨a, o, vs, rfl, h, nd, _, _⟩ := c1.ptp
    exact ⟨a, o, vs, rfl, h, nd⟩
  · have E2 := E1.ext G1 x2
    have x12 := x1.trans G G1 x2
    exact hm ah F2 H2 h2 hs' v1 v2 x xs p Q G2 ((r1.ext G1 x2).con E2) (r2.cons' E2) q fun F3 H3 v x3 G3 r3 => k F3 H3 v (x12.trans G G2 x3) G3 r3
variable {e o : Expr} {es : List Expr} {p apos cpos : Pos} {g : EM} {gs : Ev → M (List PV)}
theorem se_cntP (ho : SB X o g) (ha : SAB X (e :: es) gs) (hbase : attributeBase o "count" X.env (eval o X.env) = eval o X.env := by rfl)
    (hfew : ((backTo cpos (starEach (e :: es) X.env)).all (fun x => !x.1) && (backToKw cpos (keywordEach [] X.env)).all (fun x => x.1.isSome)
      && decide ((e :: es).length + ([] : List Keyword).length + (if ([] : List Keyword).isEmpty then 0 else 1) < 30)) = true := by rfl)
    (hline : (apos.endLine == cpos.line) = true := by rfl) (hs : starEach (e :: es) X.env = (false, eval e X.env) :: starEach es X.env := by rfl) (hplain : (backTo cpos (starEach es X.env)).any (·.1) = false := by rfl) :
    SE X (.Call (.Attribute o "count" apos) (e :: es) [] cpos) (gMeth isPtp pCntP g gs) :=
  PE.wk (pe_bmT PySem.F.slot_tuple_count PySem.F.type_tuple_count mt_tcount ho ha hbase hfew hline hs hplain) (meth_wT (K := X.K) ms_cntP)
end
end SL

end
section
namespace SLP
open PySem PySem.Spec PyProof.Rows L2 SL LamX
/-! the text -/
def topS (i : Nat) : Stmt := PySem.Challenge.pw_siegeworks_k89_whole_kings_of_the_yard_a.main.body.getD i (.Pass ⟨0, 0, 0, 0⟩)
/-- is_sized -/
abbrev s_is_sized : Stmt := topS 1
abbrev n_is_sized : List Str := ["thing", "low", "high"]
theorem sc_is_sized : FnScope n_is_sized ["thing", "low", "high"] (defScope s_is_sized) := ⟨rfl, rfl, rfl, by decide +kernel, rfl, by decide +kernel, by decide +kernel⟩
/-- check_table -/
abbrev s_check_table : Stmt := topS 7
abbrev n_check_table : List Str := ["table", "n", "row", "i", "j", "flag"]
theorem sc_check_table : FnScope n_check_table ["table"] (defScope s_check_table) := ⟨rfl, rfl, rfl, by decide +kernel, rfl, by decide +kernel, by decide +kernel⟩
/-- is_king -/
abbrev s_is_king : Stmt := topS 8
abbrev n_is_king : List Str := ["table", "i", "n", "j", "k"]
theorem sc_is_king : FnScope n_is_king ["table", "i"] (defScope s_is_king) := ⟨rfl, rfl, rfl, by decide +kernel, rfl, by decide +kernel, by decide +kernel⟩
/-- kings -/
abbrev s_kings : Stmt := topS 9
abbrev n_kings : List Str := ["table", "i"]
theorem sc_kings : FnScope n_kings ["table"] (defScope s_kings) := ⟨rfl, rfl, rfl, by decide +kernel, rfl, by decide +kernel, by decide +kernel⟩
/-- line_up -/
abbrev s_line_up : Stmt := topS 10
abbrev n_line_up : List Str := ["table", "waiting", "row", "some", "one"]
theorem sc_line_up : FnScope n_line_up ["table"] (defScope s_line_up) := ⟨rfl, rfl, rfl, by decide +kernel, rfl, by decide +kernel, by decide +kernel⟩
/-- _law_hand -/
abbrev s__law_hand : Stmt := topS 12
abbrev n__law_hand : List Str := ["script", "seed_rows", "cell"]
theorem sc__law_hand : FnScope n__law_hand ["script"] (defScope s__law_hand) := ⟨rfl, rfl, rfl, by decide +kernel, rfl, by decide +kernel, by decide +kernel⟩
/-- _law_draw -/
abbrev s__law_draw : Stmt := topS 13
abbrev n__law_draw : List Str := ["hand", "many", "number", "cell", "digit"]
theorem sc__law_draw : FnScope n__law_draw ["hand", "many"] (defScope s__law_draw) := ⟨rfl, rfl, rfl, by decide +kernel, rfl, by decide +kernel, by decide +kernel⟩
/-- _law_any -/
abbrev s__law_any : Stmt := topS 14
abbrev n__law_any : List Str := ["hand", "some"]
theorem sc__law_any : FnScope n__law_any ["hand", "some"] (defScope s__law_any) := ⟨rfl, rfl, rfl, by decide +kernel, rfl, by decide +kernel, by decide +kernel⟩
/-- _law_deep -/
abbrev s__law_deep : Stmt := topS 15
abbrev n__law_deep : List Str := ["hand", "odd_thing", "lap"]
theorem sc__law_deep : FnScope n__law_deep ["hand"] (defScope s__law_deep) := ⟨rfl, rfl, rfl, by decide +kernel, rfl, by decide +kernel, by decide +kernel⟩
/-- _law_said -/
abbrev s__law_said : Stmt := topS 16
abbrev n__law_said : List Str := ["call", "e", "flags"]
theorem sc__law_said : FnScope n__law_said ["call"] (defScope s__law_said) := ⟨rfl, rfl, rfl, by decide +kernel, rfl, by decide +kernel, by decide +kernel⟩
/-- _law_table -/
abbrev s__law_table : Stmt := topS 17
abbrev n__law_table : List Str := ["hand", "n", "rows", "i", "j", "fighter", "flag", "row"]
theorem sc__law_table : FnScope n__law_table ["hand"] (defScope s__law_table) := ⟨rfl, rfl, rfl, by decide +kernel, rfl, by decide +kernel, by decide +kernel⟩
/-- _law_is_king -/
abbrev s__law_is_king : Stmt := topS 18
abbrev n__law_is_king : List Str := ["table", "one", "beaten", "rest", "other", "flag", "by"]
theorem sc__law_is_king : FnScope n__law_is_king ["table", "one"] (defScope s__law_is_king) := ⟨rfl, rfl, rfl, by decide +kernel, rfl, by decide +kernel, by decide +kernel⟩
/-- _law_line -/
abbrev s__law_line : Stmt := topS 19
abbrev n__law_line : List Str := ["table", "rows", "place", "longer", "row", "some", "one"]
theorem sc__law_line : FnScope n__law_line ["table"] (defScope s__law_line) := ⟨rfl, rfl, rfl, by decide +kernel, rfl, by decide +kernel, by decide +kernel⟩
/-- _law_is_right -/
abbrev s__law_is_right : Stmt := topS 20
abbrev n__law_is_right : List Str := ["table", "shown", "due", "most", "line", "one", "row"]
theorem sc__law_is_right : FnScope n__law_is_right ["table"] (defScope s__law_is_right) := ⟨rfl, rfl, rfl, by decide +kernel, rfl, by decide +kernel, by decide +kernel⟩
/-- law -/
abbrev s_law : Stmt := topS 21
abbrev n_law : List Str := ["script", "hand", "three", "lap", "some", "none", "said"]
theorem sc_law : FnScope n_law ["script"] (defScope s_law) := ⟨rfl, rfl, rfl, by decide +kernel, rfl, by decide +kernel, by decide +kernel⟩
abbrev cA_law : Addr := 125
abbrev pA_law : Addr := 121
instance tbs : Tbs where
  tb := [(pA_law, ((("law" : Str) ++ ".<locals>.") ++ "<lambda>"))]
  ld := fun i => match i with
    | _ => ⟨"", defArgs s_law, .Constant .none 0 ⟨0, 0, 0, 0⟩, defScope s_law⟩
  fa := fun i => 0
theorem mem_tb0 : (pA_law, ((("law" : Str) ++ ".<locals>.") ++ "<lambda>")) ∈ Tbs.tb := .head _
theorem uni_tb0 : ∀ p ∈ Tbs.tb, p.1 = pA_law → p.2 = ((("law" : Str) ++ ".<locals>.") ++ "<lambda>") :=
  List.forall_mem_cons.mpr ⟨fun _ => rfl, (fun _ h => by cases h)⟩
structure Tp (K : Fg) (mg : Str → Option Value) : Prop where
  b_ValueError : mg "ValueError" = none
  b_abs : mg "abs" = none
  b_all : mg "all" = none
  b_any : mg "any" = none
  b_bool : mg "bool" = none
  b_enumerate : mg "enumerate" = none
  b_int : mg "int" = none
  b_isinstance : mg "isinstance" = none
  b_len : mg "len" = none
  b_max : mg "max" = none
  b_range : mg "range" = none
  b_repr : mg "repr" = none
  b_tuple : mg "tuple" = none
  c_MOST_FIGHTERS : ∃ t, mg "MOST_FIGHTERS" = some (.int 7 t)
  e_NoTable : ExK K mg "NoTable"
  errs : ErrK K mg ["NoTable"] "SiegeError"
  errV : ErrV K mg ["NoTable"]
  f_is_sized : Fn K mg "is_sized" s_is_sized ["thing", "low", "high"]
  f_check_table : Fn K mg "check_table" s_check_table ["table"]
  f_is_king : Fn K mg "is_king" s_is_king ["table", "i"]
  f_kings : Fn K mg "kings" s_kings ["table"]
  f_line_up : Fn K mg "line_up" s_line_up ["table"]
  f__law_hand : Fn K mg "_law_hand" s__law_hand ["script"]
  f__law_draw : Fn K mg "_law_draw" s__law_draw ["hand", "many"]
  f__law_any : Fn K mg "_law_any" s__law_any ["hand", "some"]
  f__law_deep : Fn K mg "_law_deep" s__law_deep ["hand"]
  f__law_said : Fn K mg "_law_said" s__law_said ["call"]
  f__law_table : Fn K mg "_law_table" s__law_table ["hand"]
  f__law_is_king : Fn K mg "_law_is_king" s__law_is_king ["table", "one"]
  f__law_line : Fn K mg "_law_line" s__law_line ["table"]
  f__law_is_right : Fn K mg "_law_is_right" s__law_is_right ["table"]
structure Tq (mg : Str → Option Value) (base : Heap) : Prop where
  t_law : TabB base mg cA_law pA_law
section
variable {P : Program} {w : World} {K : Fg} {mg : Str → Option Value} {base : Heap}
def b_is_sized : SM := (sRet (gAnd (gIsi [.tuple] (gVarB 0)) (gChain pLe pLe (gVarB 1) (gB pLen (gCons (gVarB 0) gNil)) (gVarB 2))))
def m_is_sized : List PV → M PV := fnM 3 b_is_sized
theorem u_is_sized (a0 a1 a2 : PV) : m_is_sized [a0, a1, a2] = (b_is_sized [.fz a0, .fz a1, .fz a2] >>= fin) := fn_u
theorem k_is_sized (T : Tp K mg) (U : Tq mg base) : Known P w K mg base "is_sized" 3 1 m_is_sized := by
  obtain ⟨f, fd, hm, Fu, b⟩ := T.f_is_sized
  exact known (k := 0) hm Fu b sc_is_sized rfl fun cdv A outer s H E hr =>
  (sss_one (by exact (ss_ret (se_and (se_isi (c := .tuple) (sb_var (pv 0)) (cl_tuple T.b_tuple) T.b_isinstance) (se_one (se_chain op_le op_le ops_le ops_le (sb_var (pv 1)) (SE.sb (se_len T.b_len (sab_cons (sb_var (pv 0)) sab_nil))) (sb_var (pv 2))))))))
def b_check_table : SM := (sSeq (sIf (gNotT (gTru (gB m_is_sized (gCons (gVar 0) (gCons (gC (.int 1)) (gCons (gC (.int 7)) gNil)))))) sNever sNx)
  (sSeq (sAsg (gB pLen (gCons (gVarB 0) gNil)) (tgName 1))
  (sSeq (sFor (iSeq (gVar 0)) (tgName 2) (sIf (gOrT (gNotT (gTru (gB m_is_sized (gCons (gVar 2) (gCons (gVar 1) (gCons (gVar 1) gNil)))))) (gNotT (gTru (gB pAll (gCons (gLc (iSeq (gVar 2)) (tgName 5) gYes (gIsi [.bool] (gVarB 5)) [5]) gNil))))) sNever sNx))
  (sFor (iRange (gCons (gVar 1) gNil)) (tgName 3) (sIf (gOrT (gTru (gBin pIx (gBin pIx (gVarB 0) (gVarB 3)) (gVarB 3))) (gTru (gB pAny (gCons (gLc (iRange (gCons (gVar 1) gNil)) (tgName 4) (gTB (gBin pNe (gVarB 4) (gVarB 3))) (gBin pEq (gBin pIx (gBin pIx (gVarB 0) (gVarB 3)) (gVarB 4)) (gBin pIx (gBin pIx (gVarB 0) (gVarB 4)) (gVarB 3))) [4]) gNil)))) sNever sNx)))))
def m_check_table : List PV → M PV := fnM 6 b_check_table
theorem u_check_table (a0 : PV) : m_check_table [a0] = (b_check_table [.fz a0, .un, .un, .un, .un, .un] >>= fin) := fn_u
theorem k_check_table (T : Tp K mg) (U : Tq mg base) : Known P w K mg base "check_table" 1 2 m_check_table := by
  obtain ⟨f, fd, hm, Fu, b⟩ := T.f_check_table
  exact known (k := 1) hm Fu b sc_check_table rfl fun cdv A outer s H E hr =>
  (sss_cons (by exact (ss_if (st_not (st_tru (SE.sb (se_call (k_is_sized T U) (hr.mono (by decide)) (sa_cons (se_var (pv 0)) (sa_cons se_int (sa_cons (se_ci T.c_MOST_FIGHTERS) sa_nil))) (rows_cons (rows_cons (rows_cons rows_nil))))))) (sss_one (by exact ss_never)) sss_nil))
  (sss_cons (by exact (ss_asg (se_len T.b_len (sab_cons (sb_var (pv 0)) sab_nil)) (sg_name (pg_name (i := 1) sc_check_table.nd rfl (by first | exact Or.inl rfl | exact Or.inr rfl)))))
  (sss_cons (by exact (ss_for PassesOwn.never (si_seq (se_var (pv 0))) (sg_name (pg_name (i := 2) sc_check_table.nd rfl (by first | exact Or.inl rfl | exact Or.inr rfl))) (sss_one (by exact (ss_if (st_w (sw_or (st_not (st_tru (SE.sb (se_call (k_is_sized T U) (hr.mono (by decide)) (sa_cons (se_var (pv 2)) (sa_cons (se_var (pv 1)) (sa_cons (se_var (pv 1)) sa_nil))) (rows_cons (rows_cons (rows_cons rows_nil))))))) (sw_or1 (st_not (st_tru (SE.sb (se_all T.b_all (sab_cons (SE.sb (SF.se (sf_lc (own := [("flag", 5)]) (is := [5]) sc_check_table.nd (blkOk_by (N := n_check_table) (sc := (defScope s_check_table)) (by decide +kernel)) (si_seq (se_var (pv 2))) (fun _ _ _ _ _ => (sg_name (pg_name (i := 5) sc_check_table.nd rfl (by first | exact Or.inl rfl | exact Or.inr rfl)))) (fun _ _ _ _ _ => sts_nil) (fun _ _ _ _ _ => (se_isi (c := .bool) (sb_var (pv 5)) (cl_bool T.b_bool) T.b_isinstance))))) sab_nil)))))))) (sss_one (by exact ss_never)) sss_nil)))))
  (sss_one (by exact (ss_for PassesOwn.never (si_range1 T.b_range (sa_cons (se_var (pv 1)) sa_nil) (hn := (rows_cons rows_nil))) (sg_name (pg_name (i := 3) sc_check_table.nd rfl (by first | exact Or.inl rfl | exact Or.inr rfl))) (sss_one (by exact (ss_if (st_w (sw_or (st_tru (SE.sb (se_ix (SE.sb (se_ix (sb_var (pv 0)) (sb_var (pv 3)) (fun _ _ => rfl))) (sb_var (pv 3)) (fun _ _ => rfl)))) (sw_or1 (st_tru (SE.sb (se_any T.b_any (sab_cons (SE.sb (SF.se (sf_lc (own := [("j", 4)]) (is := [4]) sc_check_table.nd (blkOk_by (N := n_check_table) (sc := (defScope s_check_table)) (by decide +kernel)) (si_range1 T.b_range (sa_cons (se_var (pv 1)) sa_nil) (hn := (rows_cons rows_nil))) (fun _ _ _ _ _ => (sg_name (pg_name (i := 4) sc_check_table.nd rfl (by first | exact Or.inl rfl | exact Or.inr rfl)))) (fun _ _ _ _ _ => (sts_one (st_cmp (opr_ne hr.units) ops_ne (sb_var (pv 4)) (sb_var (pv 3)) (nomark _)))) (fun _ _ _ _ _ => (se_cmp (opr_eq hr.units) ops_eq (SE.sb (se_ix (SE.sb (se_ix (sb_var (pv 0)) (sb_var (pv 3)) (fun _ _ => rfl))) (sb_var (pv 4)) (fun _ _ => rfl))) (SE.sb (se_ix (SE.sb (se_ix (sb_var (pv 0)) (sb_var (pv 4)) (fun _ _ => rfl))) (sb_var (pv 3)) (fun _ _ => rfl))) (nomark _)))))) sab_nil))))))) (sss_one (by exact ss_never)) sss_nil)))))))))
def bx_check_table : SM := (sSeq (sIf (gNotT (gTru (gB m_is_sized (gCons (gVar 0) (gCons (gC (.int 1)) (gCons (gC (.int 7)) gNil)))))) (sRaise "NoTable") sNx)
  (sSeq (sAsg (gB pLen (gCons (gVarB 0) gNil)) (tgName 1))
  (sSeq (sFor (iSeq (gVar 0)) (tgName 2) (sIf (gOrT (gNotT (gTru (gB m_is_sized (gCons (gVar 2) (gCons (gVar 1) (gCons (gVar 1) gNil)))))) (gNotT (gTru (gB pAll (gCons (gLc (iSeq (gVar 2)) (tgName 5) gYes (gIsi [.bool] (gVarB 5)) [5]) gNil))))) (sRaise "NoTable") sNx))
  (sFor (iRange (gCons (gVar 1) gNil)) (tgName 3) (sIf (gOrT (gTru (gBin pIx (gBin pIx (gVarB 0) (gVarB 3)) (gVarB 3))) (gTru (gB pAny (gCons (gLc (iRange (gCons (gVar 1) gNil)) (tgName 4) (gTB (gBin pNe (gVarB 4) (gVarB 3))) (gBin pEq (gBin pIx (gBin pIx (gVarB 0) (gVarB 3)) (gVarB 4)) (gBin pIx (gBin pIx (gVarB 0) (gVarB 4)) (gVarB 3))) [4]) gNil)))) (sRaise "NoTable") sNx)))))
def mx_check_table : List PV → M PE' := fnX 6 bx_check_table
theorem ux_check_table (a0 : PV) : mx_check_table [a0] = (bx_check_table [.fz a0, .un, .un, .un, .un, .un] >>= finX) := fnX_u
theorem x_check_table (T : Tp K mg) (U : Tq mg base) : KnownX P w K mg base "check_table" 1 2 mx_check_table := by
  obtain ⟨f, fd, hm, Fu, b⟩ := T.f_check_table
  exact knownX (k := 1) hm Fu b sc_check_table rfl fun W cdv A outer s H E hr tk =>
  (sss_cons (by exact (ss_if (st_not (st_tru (SE.sb (se_call (k_is_sized T U) (hr.mono (by decide)) (sa_cons (se_var (pv 0)) (sa_cons se_int (sa_cons (se_ci T.c_MOST_FIGHTERS) sa_nil))) (rows_cons (rows_cons (rows_cons rows_nil))))))) (sss_one (by exact (ss_raise rfl tk T.e_NoTable))) sss_nil))
  (sss_cons (by exact (ss_asg (se_len T.b_len (sab_cons (sb_var (pv 0)) sab_nil)) (sg_name (pg_name (i := 1) sc_check_table.nd rfl (by first | exact Or.inl rfl | exact Or.inr rfl)))))
  (sss_cons (by exact (ss_for (passes_of rfl) (si_seq (se_var (pv 0))) (sg_name (pg_name (i := 2) sc_check_table.nd rfl (by first | exact Or.inl rfl | exact Or.inr rfl))) (sss_one (by exact (ss_if (st_w (sw_or (st_not (st_tru (SE.sb (se_call (k_is_sized T U) (hr.mono (by decide)) (sa_cons (se_var (pv 2)) (sa_cons (se_var (pv 1)) (sa_cons (se_var (pv 1)) sa_nil))) (rows_cons (rows_cons (rows_cons rows_nil))))))) (sw_or1 (st_not (st_tru (SE.sb (se_all T.b_all (sab_cons (SE.sb (SF.se (sf_lc (own := [("flag", 5)]) (is := [5]) sc_check_table.nd (blkOk_by (N := n_check_table) (sc := (defScope s_check_table)) (by decide +kernel)) (si_seq (se_var (pv 2))) (fun _ _ _ _ _ => (sg_name (pg_name (i := 5) sc_check_table.nd rfl (by first | exact Or.inl rfl | exact Or.inr rfl)))) (fun _ _ _ _ _ => sts_nil) (fun _ _ _ _ _ => (se_isi (c := .bool) (sb_var (pv 5)) (cl_bool T.b_bool) T.b_isinstance))))) sab_nil)))))))) (sss_one (by exact (ss_raise rfl tk T.e_NoTable))) sss_nil)))))
  (sss_one (by exact (ss_for (passes_of rfl) (si_range1 T.b_range (sa_cons (se_var (pv 1)) sa_nil) (hn := (rows_cons rows_nil))) (sg_name (pg_name (i := 3) sc_check_table.nd rfl (by first | exact Or.inl rfl | exact Or.inr rfl))) (sss_one (by exact (ss_if (st_w (sw_or (st_tru (SE.sb (se_ix (SE.sb (se_ix (sb_var (pv 0)) (sb_var (pv 3)) (fun _ _ => rfl))) (sb_var (pv 3)) (fun _ _ => rfl)))) (sw_or1 (st_tru (SE.sb (se_any T.b_any (sab_cons (SE.sb (SF.se (sf_lc (own := [("j", 4)]) (is := [4]) sc_check_table.nd (blkOk_by (N := n_check_table) (sc := (defScope s_check_table)) (by decide +kernel)) (si_range1 T.b_range (sa_cons (se_var (pv 1)) sa_nil) (hn := (rows_cons rows_nil))) (fun _ _ _ _ _ => (sg_name (pg_name (i := 4) sc_check_table.nd rfl (by first | exact Or.inl rfl | exact Or.inr rfl)))) (fun _ _ _ _ _ => (sts_one (st_cmp (opr_ne hr.units) ops_ne (sb_var (pv 4)) (sb_var (pv 3)) (nomark _)))) (fun _ _ _ _ _ => (se_cmp (opr_eq hr.units) ops_eq (SE.sb (se_ix (SE.sb (se_ix (sb_var (pv 0)) (sb_var (pv 3)) (fun _ _ => rfl))) (sb_var (pv 4)) (fun _ _ => rfl))) (SE.sb (se_ix (SE.sb (se_ix (sb_var (pv 0)) (sb_var (pv 4)) (fun _ _ => rfl))) (sb_var (pv 3)) (fun _ _ => rfl))) (nomark _)))))) sab_nil))))))) (sss_one (by exact (ss_raise rfl tk T.e_NoTable))) sss_nil)))))))))
def b_is_king : SM := (sSeq (sAsg (gB pLen (gCons (gVarB 0) gNil)) (tgName 2))
  (sSeq (sFor (iRange (gCons (gVar 2) gNil)) (tgName 3) (sIf (gAndT (gTB (gBin pNe (gVarB 3) (gVarB 1))) (gAndT (gNotT (gTru (gBin pIx (gBin pIx (gVarB 0) (gVarB 1)) (gVarB 3)))) (gNotT (gTru (gB pAny (gCons (gLc (iRange (gCons (gVar 2) gNil)) (tgName 4) gYes (gAnd (gBin pIx (gBin pIx (gVarB 0) (gVarB 1)) (gVarB 4)) (gBin pIx (gBin pIx (gVarB 0) (gVarB 4)) (gVarB 3))) [4]) gNil)))))) (sRet (gC (.bl false))) sNx))
  (sRet (gC (.bl true)))))
def m_is_king : List PV → M PV := fnM 5 b_is_king
theorem u_is_king (a0 a1 : PV) : m_is_king [a0, a1] = (b_is_king [.fz a0, .fz a1, .un, .un, .un] >>= fin) := fn_u
theorem k_is_king (T : Tp K mg) (U : Tq mg base) : Known P w K mg base "is_king" 2 1 m_is_king := by
  obtain ⟨f, fd, hm, Fu, b⟩ := T.f_is_king
  exact known (k := 0) hm Fu b sc_is_king rfl fun cdv A outer s H E hr =>
  (sss_cons (by exact (ss_asg (se_len T.b_len (sab_cons (sb_var (pv 0)) sab_nil)) (sg_name (pg_name (i := 2) sc_is_king.nd rfl (by first | exact Or.inl rfl | exact Or.inr rfl)))))
  (sss_cons (by exact (ss_for PassesOwn.never (si_range1 T.b_range (sa_cons (se_var (pv 2)) sa_nil) (hn := (rows_cons rows_nil))) (sg_name (pg_name (i := 3) sc_is_king.nd rfl (by first | exact Or.inl rfl | exact Or.inr rfl))) (sss_one (by exact (ss_if (st_w (sw_and (st_cmp (opr_ne hr.units) ops_ne (sb_var (pv 3)) (sb_var (pv 1)) (nomark _)) (sw_and (st_not (st_tru (SE.sb (se_ix (SE.sb (se_ix (sb_var (pv 0)) (sb_var (pv 1)) (fun _ _ => rfl))) (sb_var (pv 3)) (fun _ _ => rfl))))) (sw_and1 (st_not (st_tru (SE.sb (se_any T.b_any (sab_cons (SE.sb (SF.se (sf_lc (own := [("k", 4)]) (is := [4]) sc_is_king.nd (blkOk_by (N := n_is_king) (sc := (defScope s_is_king)) (by decide +kernel)) (si_range1 T.b_range (sa_cons (se_var (pv 2)) sa_nil) (hn := (rows_cons rows_nil))) (fun _ _ _ _ _ => (sg_name (pg_name (i := 4) sc_is_king.nd rfl (by first | exact Or.inl rfl | exact Or.inr rfl)))) (fun _ _ _ _ _ => sts_nil) (fun _ _ _ _ _ => (se_and (se_ix (SE.sb (se_ix (sb_var (pv 0)) (sb_var (pv 1)) (fun _ _ => rfl))) (sb_var (pv 4)) (fun _ _ => rfl)) (se_one (se_ix (SE.sb (se_ix (sb_var (pv 0)) (sb_var (pv 4)) (fun _ _ => rfl))) (sb_var (pv 3)) (fun _ _ => rfl)))))))) sab_nil))))))))) (sss_one (by exact (ss_ret se_bl))) sss_nil)))))
  (sss_one (by exact (ss_ret se_bl)))))
def b_kings : SM := (sSeq (sExpr (gB m_check_table (gCons (gVar 0) gNil)))
  (sRet (gB pTuple (gCons (gLc (iRange (gCons (gB pLen (gCons (gVarB 0) gNil)) gNil)) (tgName 1) (gTru (gB m_is_king (gCons (gVar 0) (gCons (gVar 1) gNil)))) (gVar 1) [1]) gNil))))
def m_kings : List PV → M PV := fnM 2 b_kings
theorem u_kings (a0 : PV) : m_kings [a0] = (b_kings [.fz a0, .un] >>= fin) := fn_u
theorem k_kings (T : Tp K mg) (U : Tq mg base) : Known P w K mg base "kings" 1 3 m_kings := by
  obtain ⟨f, fd, hm, Fu, b⟩ := T.f_kings
  exact known (k := 2) hm Fu b sc_kings rfl fun cdv A outer s H E hr =>
  (sss_cons (by exact (ss_expr (se_call (k_check_table T U) (hr.mono (by decide)) (sa_cons (se_var (pv 0)) sa_nil) (rows_cons rows_nil))))
  (sss_one (by exact (ss_ret (se_tuplec T.b_tuple (sab_cons (SE.sb (SF.se (sf_lc (own := [("i", 1)]) (is := [1]) sc_kings.nd (blkOk_by (N := n_kings) (sc := (defScope s_kings)) (by decide +kernel)) (si_range1 T.b_range (sa_cons (se_len T.b_len (sab_cons (sb_var (pv 0)) sab_nil)) sa_nil) (hn := (rows_cons rows_nil))) (fun _ _ _ _ _ => (sg_name (pg_name (i := 1) sc_kings.nd rfl (by first | exact Or.inl rfl | exact Or.inr rfl)))) (fun _ _ _ _ _ => (sts_one (st_tru (SE.sb (se_call (k_is_king T U) (hr.mono (by decide)) (sa_cons (se_var (pv 0)) (sa_cons (se_var (pv 1)) sa_nil)) (rows_cons (rows_cons rows_nil))))))) (fun _ _ _ _ _ => (se_var (pv 1)))))) sab_nil))))))
def bx_kings : SM := (sSeq (sExprX (gBX mx_check_table (gCons (gVar 0) gNil)))
  (sRet (gB pTuple (gCons (gLc (iRange (gCons (gB pLen (gCons (gVarB 0) gNil)) gNil)) (tgName 1) (gTru (gB m_is_king (gCons (gVar 0) (gCons (gVar 1) gNil)))) (gVar 1) [1]) gNil))))
def mx_kings : List PV → M PE' := fnX 2 bx_kings
theorem ux_kings (a0 : PV) : mx_kings [a0] = (bx_kings [.fz a0, .un] >>= finX) := fnX_u
theorem x_kings (T : Tp K mg) (U : Tq mg base) : KnownX P w K mg base "kings" 1 3 mx_kings := by
  obtain ⟨f, fd, hm, Fu, b⟩ := T.f_kings
  exact knownX (k := 2) hm Fu b sc_kings rfl fun W cdv A outer s H E hr tk =>
  (sss_cons (by exact (ss_exprX (sx_call (x_check_table T U) (hr.mono (by decide)) tk (fun _ _ _ => trivial) (sa_cons (se_var (pv 0)) sa_nil) (rows_cons rows_nil))))
  (sss_one (by exact (ss_ret (se_tuplec T.b_tuple (sab_cons (SE.sb (SF.se (sf_lc (own := [("i", 1)]) (is := [1]) sc_kings.nd (blkOk_by (N := n_kings) (sc := (defScope s_kings)) (by decide +kernel)) (si_range1 T.b_range (sa_cons (se_len T.b_len (sab_cons (sb_var (pv 0)) sab_nil)) sa_nil) (hn := (rows_cons rows_nil))) (fun _ _ _ _ _ => (sg_name (pg_name (i := 1) sc_kings.nd rfl (by first | exact Or.inl rfl | exact Or.inr rfl)))) (fun _ _ _ _ _ => (sts_one (st_tru (SE.sb (se_call (k_is_king T U) (hr.mono (by decide)) (sa_cons (se_var (pv 0)) (sa_cons (se_var (pv 1)) sa_nil)) (rows_cons (rows_cons rows_nil))))))) (fun _ _ _ _ _ => (se_var (pv 1)))))) sab_nil))))))
def b_line_up : SM := (sSeq (sExpr (gB m_check_table (gCons (gVar 0) gNil)))
  (sSeq (sOwn (gLst (gCons (gTup gNil) gNil)) 1)
  (sSeq (sWh 100000 (gTB (gBin pGt (gB pLen (gCons (gVarB 1) gNil)) (gC (.int 0)))) (sSeq (sPop 1 2)
  (sSeq (sIf (gTB (gBin pEq (gB pLen (gCons (gVarB 2) gNil)) (gB pLen (gCons (gVarB 0) gNil)))) (sRet (gVar 2)) sNx)
  (sSeq (sAsg (gLc (iRange (gCons (gB pLen (gCons (gVarB 0) gNil)) gNil)) (tgName 4) (gAndT (gTB (gBin pNotIn (gVarB 4) (gVarB 2))) (gOrT (gTB (gBin pEq (gB pLen (gCons (gVarB 2) gNil)) (gC (.int 0)))) (gTru (gBin pIx (gBin pIx (gVarB 0) (gBin pIx (gVarB 2) (gNeg (gC (.int 1))))) (gVarB 4))))) (gVar 4) [4]) (tgName 3))
  (sExt 1 (gRev (gLc (iSeq (gVar 3)) (tgName 4) gYes (gBin pAdd (gVarB 2) (gTup (gCons (gVar 4) gNil))) [4]) (oSome (gNeg (gC (.int 1))))))))))
  (sRet (gC .non)))))
def m_line_up : List PV → M PV := fnM 5 b_line_up
theorem u_line_up (a0 : PV) : m_line_up [a0] = (b_line_up [.fz a0, .un, .un, .un, .un] >>= fin) := fn_u
theorem k_line_up (T : Tp K mg) (U : Tq mg base) : Known P w K mg base "line_up" 1 3 m_line_up := by
  obtain ⟨f, fd, hm, Fu, b⟩ := T.f_line_up
  exact known (k := 2) hm Fu b sc_line_up rfl fun cdv A outer s H E hr =>
  (sss_cons (by exact (ss_expr (se_call (k_check_table T U) (hr.mono (by decide)) (sa_cons (se_var (pv 0)) sa_nil) (rows_cons rows_nil))))
  (sss_cons (by exact (ss_own (i := 1) (sf_lst (sa_cons (se_tup sa_nil) sa_nil)) (pg_name (i := 1) sc_line_up.nd rfl (by first | exact Or.inl rfl | exact Or.inr rfl))))
  (sss_cons (by exact (ss_while 100000 PassesOwn.never (st_cmp op_gt ops_gt (SE.sb (se_len T.b_len (sab_cons (sb_var (pv 1)) sab_nil))) (SE.sb se_int) (nomark _)) (sss_cons (by exact (ss_pop (pv 1) (pg_name (i := 2) sc_line_up.nd rfl (by first | exact Or.inl rfl | exact Or.inr rfl))))
  (sss_cons (by exact (ss_if (st_cmp (opr_eq hr.units) ops_eq (SE.sb (se_len T.b_len (sab_cons (sb_var (pv 2)) sab_nil))) (SE.sb (se_len T.b_len (sab_cons (sb_var (pv 0)) sab_nil))) (nomark _)) (sss_one (by exact (ss_ret (se_var (pv 2))))) sss_nil))
  (sss_cons (by exact (ss_asgLc (i := 3) (own := [("one", 4)]) (is := [4]) sc_line_up.nd (blkOk_by (N := n_line_up) (sc := (defScope s_line_up)) (by decide +kernel)) (si_range1 T.b_range (sa_cons (se_len T.b_len (sab_cons (sb_var (pv 0)) sab_nil)) sa_nil) (hn := (rows_cons rows_nil))) (fun _ _ _ _ _ => (sg_name (pg_name (i := 4) sc_line_up.nd rfl (by first | exact Or.inl rfl | exact Or.inr rfl)))) (fun _ _ _ _ _ => (sts_one (st_w (sw_and (st_cmp op_notIn_seq (ops_in true) (sb_var (pv 4)) (sb_var (pv 2)) (by rfl)) (sw_and1 (st_w (sw_or (st_cmp (opr_eq hr.units) ops_eq (SE.sb (se_len T.b_len (sab_cons (sb_var (pv 2)) sab_nil))) (SE.sb se_int) (nomark _)) (sw_or1 (st_tru (SE.sb (se_ix (SE.sb (se_ix (sb_var (pv 0)) (SE.sb (se_ix (sb_var (pv 2)) (SE.sb (se_neg se_int)) (fun _ _ => rfl))) (fun _ _ => rfl))) (sb_var (pv 4)) (fun _ _ => rfl)))))))))))) (fun _ _ _ _ _ => (se_var (pv 4))) rfl rfl (sw_true rfl rfl rfl (by decide +kernel))))
  (sss_one (by exact (ss_ext (i := 1) (pv 1) (SF.se (sf_rev (SE.sb (SF.se (sf_lc (own := [("one", 4)]) (is := [4]) sc_line_up.nd (blkOk_by (N := n_line_up) (sc := (defScope s_line_up)) (by decide +kernel)) (si_seq (se_var (pv 3))) (fun _ _ _ _ _ => (sg_name (pg_name (i := 4) sc_line_up.nd rfl (by first | exact Or.inl rfl | exact Or.inr rfl)))) (fun _ _ _ _ _ => sts_nil) (fun _ _ _ _ _ => (se_op opr_add ops_add (sb_var (pv 2)) (SE.sb (se_tup (sa_cons (se_var (pv 4)) sa_nil)))))))) (so_some (SE.sb (se_neg se_int)))))))))))))
  (sss_one (by exact (ss_ret se_non))))))
def bx_line_up : SM := (sSeq (sExprX (gBX mx_check_table (gCons (gVar 0) gNil)))
  (sSeq (sOwn (gLst (gCons (gTup gNil) gNil)) 1)
  (sSeq (sWh 100000 (gTB (gBin pGt (gB pLen (gCons (gVarB 1) gNil)) (gC (.int 0)))) (sSeq (sPop 1 2)
  (sSeq (sIf (gTB (gBin pEq (gB pLen (gCons (gVarB 2) gNil)) (gB pLen (gCons (gVarB 0) gNil)))) (sRet (gVar 2)) sNx)
  (sSeq (sAsg (gLc (iRange (gCons (gB pLen (gCons (gVarB 0) gNil)) gNil)) (tgName 4) (gAndT (gTB (gBin pNotIn (gVarB 4) (gVarB 2))) (gOrT (gTB (gBin pEq (gB pLen (gCons (gVarB 2) gNil)) (gC (.int 0)))) (gTru (gBin pIx (gBin pIx (gVarB 0) (gBin pIx (gVarB 2) (gNeg (gC (.int 1))))) (gVarB 4))))) (gVar 4) [4]) (tgName 3))
  (sExt 1 (gRev (gLc (iSeq (gVar 3)) (tgName 4) gYes (gBin pAdd (gVarB 2) (gTup (gCons (gVar 4) gNil))) [4]) (oSome (gNeg (gC (.int 1))))))))))
  (sRet (gC .non)))))
def mx_line_up : List PV → M PE' := fnX 5 bx_line_up
theorem ux_line_up (a0 : PV) : mx_line_up [a0] = (bx_line_up [.fz a0, .un, .un, .un, .un] >>= finX) := fnX_u
theorem x_line_up (T : Tp K mg) (U : Tq mg base) : KnownX P w K mg base "line_up" 1 3 mx_line_up := by
  obtain ⟨f, fd, hm, Fu, b⟩ := T.f_line_up
  exact knownX (k := 2) hm Fu b sc_line_up rfl fun W cdv A outer s H E hr tk =>
  (sss_cons (by exact (ss_exprX (sx_call (x_check_table T U) (hr.mono (by decide)) tk (fun _ _ _ => trivial) (sa_cons (se_var (pv 0)) sa_nil) (rows_cons rows_nil))))
  (sss_cons (by exact (ss_own (i := 1) (sf_lst (sa_cons (se_tup sa_nil) sa_nil)) (pg_name (i := 1) sc_line_up.nd rfl (by first | exact Or.inl rfl | exact Or.inr rfl))))
  (sss_cons (by exact (ss_while 100000 (passes_of rfl) (st_cmp op_gt ops_gt (SE.sb (se_len T.b_len (sab_cons (sb_var (pv 1)) sab_nil))) (SE.sb se_int) (nomark _)) (sss_cons (by exact (ss_pop (pv 1) (pg_name (i := 2) sc_line_up.nd rfl (by first | exact Or.inl rfl | exact Or.inr rfl))))
  (sss_cons (by exact (ss_if (st_cmp (opr_eq hr.units) ops_eq (SE.sb (se_len T.b_len (sab_cons (sb_var (pv 2)) sab_nil))) (SE.sb (se_len T.b_len (sab_cons (sb_var (pv 0)) sab_nil))) (nomark _)) (sss_one (by exact (ss_ret (se_var (pv 2))))) sss_nil))
  (sss_cons (by exact (ss_asgLc (i := 3) (own := [("one", 4)]) (is := [4]) sc_line_up.nd (blkOk_by (N := n_line_up) (sc := (defScope s_line_up)) (by decide +kernel)) (si_range1 T.b_range (sa_cons (se_len T.b_len (sab_cons (sb_var (pv 0)) sab_nil)) sa_nil) (hn := (rows_cons rows_nil))) (fun _ _ _ _ _ => (sg_name (pg_name (i := 4) sc_line_up.nd rfl (by first | exact Or.inl rfl | exact Or.inr rfl)))) (fun _ _ _ _ _ => (sts_one (st_w (sw_and (st_cmp op_notIn_seq (ops_in true) (sb_var (pv 4)) (sb_var (pv 2)) (by rfl)) (sw_and1 (st_w (sw_or (st_cmp (opr_eq hr.units) ops_eq (SE.sb (se_len T.b_len (sab_cons (sb_var (pv 2)) sab_nil))) (SE.sb se_int) (nomark _)) (sw_or1 (st_tru (SE.sb (se_ix (SE.sb (se_ix (sb_var (pv 0)) (SE.sb (se_ix (sb_var (pv 2)) (SE.sb (se_neg se_int)) (fun _ _ => rfl))) (fun _ _ => rfl))) (sb_var (pv 4)) (fun _ _ => rfl)))))))))))) (fun _ _ _ _ _ => (se_var (pv 4))) rfl rfl (sw_true rfl rfl rfl (by decide +kernel))))
  (sss_one (by exact (ss_ext (i := 1) (pv 1) (SF.se (sf_rev (SE.sb (SF.se (sf_lc (own := [("one", 4)]) (is := [4]) sc_line_up.nd (blkOk_by (N := n_line_up) (sc := (defScope s_line_up)) (by decide +kernel)) (si_seq (se_var (pv 3))) (fun _ _ _ _ _ => (sg_name (pg_name (i := 4) sc_line_up.nd rfl (by first | exact Or.inl rfl | exact Or.inr rfl)))) (fun _ _ _ _ _ => sts_nil) (fun _ _ _ _ _ => (se_op opr_add ops_add (sb_var (pv 2)) (SE.sb (se_tup (sa_cons (se_var (pv 4)) sa_nil)))))))) (so_some (SE.sb (se_neg se_int)))))))))))))
  (sss_one (by exact (ss_ret se_non))))))
def b__law_hand : SM := (sSeq (sAsg (gLc (iSeq (gSl (gVarB 0) oNone (oSome (gC (.int 63))))) (tgName 2) gYes (gB pAbs (gCons (gB pInt (gCons (gVarB 2) gNil)) gNil)) [2]) (tgName 1))
  (sRetF (gLst (gCons (gVar 1) (gCons (gC (.int 0)) (gCons (gC (.int 0)) (gCons (gBin pAdd (gC (.int 83)) (gBin pMul (gC (.int 5)) (gB pLen (gCons (gVarB 1) gNil)))) (gCons (gC (.int 0)) gNil))))))))
def m__law_hand : List PV → M PV := fnF 3 b__law_hand
theorem u__law_hand (a0 : PV) : m__law_hand [a0] = (b__law_hand [.fz a0, .un, .un] >>= finF) := fnF_u
theorem k__law_hand (T : Tp K mg) (U : Tq mg base) : KnownF P w K mg base "_law_hand" 1 1 m__law_hand := by
  obtain ⟨f, fd, hm, Fu, b⟩ := T.f__law_hand
  exact knownF (k := 0) hm Fu b sc__law_hand rfl fun cdv A outer s H E hr =>
  (sss_cons (by exact (ss_asgLc (i := 1) (own := [("cell", 2)]) (is := [2]) sc__law_hand.nd (blkOk_by (N := n__law_hand) (sc := (defScope s__law_hand)) (by decide +kernel)) (si_seq (se_sl (sb_var (pv 0)) so_none (so_some (SE.sb se_int)))) (fun _ _ _ _ _ => (sg_name (pg_name (i := 2) sc__law_hand.nd rfl (by first | exact Or.inl rfl | exact Or.inr rfl)))) (fun _ _ _ _ _ => sts_nil) (fun _ _ _ _ _ => (se_abs T.b_abs (sab_cons (SE.sb (se_intc T.b_int (sab_cons (sb_var (pv 2)) sab_nil))) sab_nil))) rfl rfl (sw_true rfl rfl rfl (by decide +kernel))))
  (sss_one (by exact (ss_retF (sf_lst (sa_cons (se_var (pv 1)) (sa_cons se_int (sa_cons se_int (sa_cons (se_op opr_add ops_add (SE.sb se_int) (SE.sb (se_op op_mul ops_mul (SE.sb se_int) (SE.sb (se_len T.b_len (sab_cons (sb_var (pv 1)) sab_nil)))))) (sa_cons se_int sa_nil))))))))))
def b__law_draw : SM := (sSeq (sIf (gAndT (gTB (gBin pEq (gBin pIx (gVarB 0) (gC (.int 2))) (gC (.int 0)))) (gTB (gBin pLt (gBin pIx (gVarB 0) (gC (.int 1))) (gB pLen (gCons (gBin pIx (gVarB 0) (gC (.int 0))) gNil))))) (sSeq (sAsg (gBin pIx (gBin pIx (gVarB 0) (gC (.int 0))) (gBin pIx (gVarB 0) (gC (.int 1)))) (tgName 3))
  (sSeq (sSetH (gVar 0) (gC (.int 1)) (gBin pAdd (gBin pIx (gVarB 0) (gC (.int 1))) (gC (.int 1))))
  (sSeq (sSetH (gVar 0) (gC (.int 3)) (gBin pMod (gB pInt (gCons (gBin pAdd (gBin pAdd (gBin pMul (gBin pIx (gVarB 0) (gC (.int 3))) (gC (.int 69621))) (gBin pMul (gVarB 3) (gC (.int 40692)))) (gC (.int 17))) gNil)) (gC (.int 2147483629))))
  (sIf (gTB (gBin pGe (gVarB 3) (gBin pPow (gC (.int 10)) (gC (.int 18))))) (sSetH (gVar 0) (gC (.int 2)) (gVar 3)) sNx)))) sNx)
  (sSeq (sIf (gTB (gBin pGt (gBin pIx (gVarB 0) (gC (.int 2))) (gC (.int 0)))) (sSeq (sAsg (gBin pMod (gB pInt (gCons (gBin pIx (gVarB 0) (gC (.int 2))) gNil)) (gVarB 1)) (tgName 4))
  (sSeq (sSetH (gVar 0) (gC (.int 2)) (gBin pDiv (gBin pIx (gVarB 0) (gC (.int 2))) (gVarB 1)))
  (sRet (gVar 4)))) sNx)
  (sSeq (sSetH (gVar 0) (gC (.int 4)) (gBin pAdd (gBin pIx (gVarB 0) (gC (.int 4))) (gC (.int 1))))
  (sSeq (sAsg (gBin pMod (gB pInt (gCons (gBin pMul (gB pInt (gCons (gBin pAdd (gBin pIx (gVarB 0) (gC (.int 3))) (gBin pMul (gC (.int 7919)) (gBin pIx (gVarB 0) (gC (.int 4))))) gNil)) (gC (.int 48271))) gNil)) (gC (.int 2147483647))) (tgName 2))
  (sSeq (sAsg (gBin pMod (gB pInt (gCons (gBin pMul (gVarB 2) (gBin pAdd (gBin pDiv (gVarB 2) (gC (.int 1009))) (gC (.int 69621)))) gNil)) (gC (.int 2147483647))) (tgName 2))
  (sSeq (sAsg (gBin pMod (gB pInt (gCons (gBin pMul (gVarB 2) (gBin pAdd (gBin pDiv (gVarB 2) (gC (.int 2003))) (gC (.int 40014)))) gNil)) (gC (.int 2147483563))) (tgName 2))
  (sRet (gBin pMod (gB pInt (gCons (gBin pDiv (gVarB 2) (gC (.int 16))) gNil)) (gVarB 1)))))))))
def m__law_draw : List PV → M PV := fnM 5 b__law_draw
theorem u__law_draw (a0 a1 : PV) : m__law_draw [a0, a1] = (b__law_draw [.fz a0, .fz a1, .un, .un, .un] >>= fin) := fn_u
theorem k__law_draw (T : Tp K mg) (U : Tq mg base) : Known P w K mg base "_law_draw" 2 1 m__law_draw := by
  obtain ⟨f, fd, hm, Fu, b⟩ := T.f__law_draw
  exact known (k := 0) hm Fu b sc__law_draw rfl fun cdv A outer s H E hr =>
  (sss_cons (by exact (ss_if (st_w (sw_and (st_cmp (opr_eq hr.units) ops_eq (SE.sb (se_ix (sb_var (pv 0)) (SE.sb se_int) (fun _ _ => rfl))) (SE.sb se_int) (nomark _)) (sw_and1 (st_cmp (opr_lt hr.units0) ops_lt (SE.sb (se_ix (sb_var (pv 0)) (SE.sb se_int) (fun _ _ => rfl))) (SE.sb (se_len T.b_len (sab_cons (SE.sb (se_ix (sb_var (pv 0)) (SE.sb se_int) (fun _ _ => rfl))) sab_nil))) (nomark _))))) (sss_cons (by exact (ss_asg (se_ix (SE.sb (se_ix (sb_var (pv 0)) (SE.sb se_int) (fun _ _ => rfl))) (SE.sb (se_ix (sb_var (pv 0)) (SE.sb se_int) (fun _ _ => rfl))) (fun _ _ => rfl)) (sg_name (pg_name (i := 3) sc__law_draw.nd rfl (by first | exact Or.inl rfl | exact Or.inr rfl)))))
  (sss_cons (by exact (ss_seth (se_var (pv 0)) se_int (se_op opr_add ops_add (SE.sb (se_ix (sb_var (pv 0)) (SE.sb se_int) (fun _ _ => rfl))) (SE.sb se_int))))
  (sss_cons (by exact (ss_seth (se_var (pv 0)) se_int (se_op op_mod ops_mod (SE.sb (se_intc T.b_int (sab_cons (SE.sb (se_op opr_add ops_add (SE.sb (se_op opr_add ops_add (SE.sb (se_op op_mul ops_mul (SE.sb (se_ix (sb_var (pv 0)) (SE.sb se_int) (fun _ _ => rfl))) (SE.sb se_int))) (SE.sb (se_op op_mul ops_mul (sb_var (pv 3)) (SE.sb se_int))))) (SE.sb se_int))) sab_nil))) (SE.sb se_int))))
  (sss_one (by exact (ss_if (st_cmp op_ge ops_ge (sb_var (pv 3)) (SE.sb (se_op op_pow ops_pow (SE.sb se_int) (SE.sb se_int))) (nomark _)) (sss_one (by exact (ss_seth (se_var (pv 0)) se_int (se_var (pv 3))))) sss_nil)))))) sss_nil))
  (sss_cons (by exact (ss_if (st_cmp op_gt ops_gt (SE.sb (se_ix (sb_var (pv 0)) (SE.sb se_int) (fun _ _ => rfl))) (SE.sb se_int) (nomark _)) (sss_cons (by exact (ss_asg (se_op op_mod ops_mod (SE.sb (se_intc T.b_int (sab_cons (SE.sb (se_ix (sb_var (pv 0)) (SE.sb se_int) (fun _ _ => rfl))) sab_nil))) (sb_var (pv 1))) (sg_name (pg_name (i := 4) sc__law_draw.nd rfl (by first | exact Or.inl rfl | exact Or.inr rfl)))))
  (sss_cons (by exact (ss_seth (se_var (pv 0)) se_int (se_op op_fdivW ops_div (SE.sb (se_ix (sb_var (pv 0)) (SE.sb se_int) (fun _ _ => rfl))) (sb_var (pv 1)))))
  (sss_one (by exact (ss_ret (se_var (pv 4))))))) sss_nil))
  (sss_cons (by exact (ss_seth (se_var (pv 0)) se_int (se_op opr_add ops_add (SE.sb (se_ix (sb_var (pv 0)) (SE.sb se_int) (fun _ _ => rfl))) (SE.sb se_int))))
  (sss_cons (by exact (ss_asg (se_op op_mod ops_mod (SE.sb (se_intc T.b_int (sab_cons (SE.sb (se_op op_mul ops_mul (SE.sb (se_intc T.b_int (sab_cons (SE.sb (se_op opr_add ops_add (SE.sb (se_ix (sb_var (pv 0)) (SE.sb se_int) (fun _ _ => rfl))) (SE.sb (se_op op_mul ops_mul (SE.sb se_int) (SE.sb (se_ix (sb_var (pv 0)) (SE.sb se_int) (fun _ _ => rfl))))))) sab_nil))) (SE.sb se_int))) sab_nil))) (SE.sb se_int)) (sg_name (pg_name (i := 2) sc__law_draw.nd rfl (by first | exact Or.inl rfl | exact Or.inr rfl)))))
  (sss_cons (by exact (ss_asg (se_op op_mod ops_mod (SE.sb (se_intc T.b_int (sab_cons (SE.sb (se_op op_mul ops_mul (sb_var (pv 2)) (SE.sb (se_op opr_add ops_add (SE.sb (se_op op_fdivW ops_div (sb_var (pv 2)) (SE.sb se_int))) (SE.sb se_int))))) sab_nil))) (SE.sb se_int)) (sg_name (pg_name (i := 2) sc__law_draw.nd rfl (by first | exact Or.inl rfl | exact Or.inr rfl)))))
  (sss_cons (by exact (ss_asg (se_op op_mod ops_mod (SE.sb (se_intc T.b_int (sab_cons (SE.sb (se_op op_mul ops_mul (sb_var (pv 2)) (SE.sb (se_op opr_add ops_add (SE.sb (se_op op_fdivW ops_div (sb_var (pv 2)) (SE.sb se_int))) (SE.sb se_int))))) sab_nil))) (SE.sb se_int)) (sg_name (pg_name (i := 2) sc__law_draw.nd rfl (by first | exact Or.inl rfl | exact Or.inr rfl)))))
  (sss_one (by exact (ss_ret (se_op op_mod ops_mod (SE.sb (se_intc T.b_int (sab_cons (SE.sb (se_op op_fdivW ops_div (sb_var (pv 2)) (SE.sb se_int))) sab_nil))) (sb_var (pv 1))))))))))))
def b__law_any : SM := (sRet (gBin pIx (gVarB 1) (gB m__law_draw (gCons (gVar 0) (gCons (gB pLen (gCons (gVarB 1) gNil)) gNil)))))
def m__law_any : List PV → M PV := fnM 2 b__law_any
theorem u__law_any (a0 a1 : PV) : m__law_any [a0, a1] = (b__law_any [.fz a0, .fz a1] >>= fin) := fn_u
theorem k__law_any (T : Tp K mg) (U : Tq mg base) : Known P w K mg base "_law_any" 2 2 m__law_any := by
  obtain ⟨f, fd, hm, Fu, b⟩ := T.f__law_any
  exact known (k := 1) hm Fu b sc__law_any rfl fun cdv A outer s H E hr =>
  (sss_one (by exact (ss_ret (se_ix (sb_var (pv 1)) (SE.sb (se_call (k__law_draw T U) (hr.mono (by decide)) (sa_cons (se_var (pv 0)) (sa_cons (se_len T.b_len (sab_cons (sb_var (pv 1)) sab_nil)) sa_nil)) (rows_cons (rows_cons rows_nil)))) (fun _ _ => rfl)))))
def b__law_deep : SM := (sSeq (sAsg (gB m__law_any (gCons (gVar 0) (gCons (gLst (gCons (gC (.str "?")) (gCons (gC (.str "X x")) gNil))) gNil))) (tgName 1))
  (sSeq (sFor (iRange (gCons (gBin pAdd (gC (.int 5)) (gB m__law_draw (gCons (gVar 0) (gCons (gC (.int 20)) gNil)))) gNil)) (tgName 2) (sAsg (gIf (gTB (gBin pEq (gB m__law_draw (gCons (gVar 0) (gCons (gC (.int 2)) gNil))) (gC (.int 0)))) (gLst (gCons (gVar 1) gNil)) (gTup (gCons (gVar 1) gNil))) (tgName 1)))
  (sRet (gVar 1))))
def m__law_deep : List PV → M PV := fnM 3 b__law_deep
theorem u__law_deep (a0 : PV) : m__law_deep [a0] = (b__law_deep [.fz a0, .un, .un] >>= fin) := fn_u
theorem k__law_deep (T : Tp K mg) (U : Tq mg base) : Known P w K mg base "_law_deep" 1 3 m__law_deep := by
  obtain ⟨f, fd, hm, Fu, b⟩ := T.f__law_deep
  exact known (k := 2) hm Fu b sc__law_deep rfl fun cdv A outer s H E hr =>
  (sss_cons (by exact (ss_asg (se_call (k__law_any T U) (hr.mono (by decide)) (sa_cons (se_var (pv 0)) (sa_cons (SF.se (sf_lst (sa_cons se_str (sa_cons se_str sa_nil)))) sa_nil)) (rows_cons (rows_cons rows_nil))) (sg_name (pg_name (i := 1) sc__law_deep.nd rfl (by first | exact Or.inl rfl | exact Or.inr rfl)))))
  (sss_cons (by exact (ss_for PassesOwn.never (si_range1 T.b_range (sa_cons (se_op opr_add ops_add (SE.sb se_int) (SE.sb (se_call (k__law_draw T U) (hr.mono (by decide)) (sa_cons (se_var (pv 0)) (sa_cons se_int sa_nil)) (rows_cons (rows_cons rows_nil))))) sa_nil) (hn := (rows_cons rows_nil))) (sg_name (pg_name (i := 2) sc__law_deep.nd rfl (by first | exact Or.inl rfl | exact Or.inr rfl))) (sss_one (by exact (ss_asg (se_if (st_cmp (opr_eq hr.units) ops_eq (SE.sb (se_call (k__law_draw T U) (hr.mono (by decide)) (sa_cons (se_var (pv 0)) (sa_cons se_int sa_nil)) (rows_cons (rows_cons rows_nil)))) (SE.sb se_int) (nomark _)) (SF.se (sf_lst (sa_cons (se_var (pv 1)) sa_nil))) (se_tup (sa_cons (se_var (pv 1)) sa_nil))) (sg_name (pg_name (i := 1) sc__law_deep.nd rfl (by first | exact Or.inl rfl | exact Or.inr rfl))))))))
  (sss_one (by exact (ss_ret (se_var (pv 1)))))))
def gs__law_said (a : Nat) (d : Option Nat) (c : Str) : SM := (sSeq (sIf (gNotT (gTru (gIsE 1 a d true))) (sRet (gC (.str "other"))) sNx)
  (sSeq (sAsg (gLst (gCons (gIsE 1 a d (c == "NoTable")) gNil)) (tgName 2))
  (sRet (gIf (gTB (gBin pEq (gMeth isLst pCnt (gVarB 2) (gCons (gC (.bl true)) gNil)) (gC (.int 1)))) (gBin pIx (gLst (gCons (gC (.str "table")) gNil)) (gMeth isLst pIdx (gVarB 2) (gCons (gC (.bl true)) gNil))) (gC (.str "other"))))))
def gr__law_said : SM := (sRet (gC (.str "let")))
def errs : List Str := ["NoTable"]
def wm__law_said : PE' → M PV
  | .inl _ => pure (.str "let")
  | .inr c => if c = "NoTable" then pure (.str "table") else stuck
theorem wx__law_said (c : Str) (hs : HS) (p : PV) (hs' : HS) (h : wm__law_said (.inr c) hs = .ok (p, hs')) : c ∈ errs ∧ ∀ (f a : Nat) (d : Option Nat), gs__law_said a d c ((ev0 3 [.exc f]).set 1 (.fz (exE a d))) hs = .ok (.rt p, hs') := by
  unfold wm__law_said at h
  dsimp only at h
  by_cases e : c = "NoTable"
  · rw [if_pos e] at h
    cases M.pure_ok h
    subst e
    refine ⟨by decide, fun f a d => ?_⟩
    have q : gs__law_said a d "NoTable" ((ev0 3 [.exc f]).set 1 (.fz (exE a d))) = pure (.rt (.str "table")) := by
      show gs__law_said a d "NoTable" [.fz (.exc f), .fz (exE a d), .un] = _
      unfold gs__law_said
      simp
      rfl
    rw [q]; rfl
  rw [if_neg e] at h; clear e
  cases h
theorem wk__law_said (T : Tp K mg) (U : Tq mg base) (k : Nat) : WordK P w K mg base "_law_said" k wm__law_said := by
  obtain ⟨f, fd, hm, Fu, b⟩ := T.f__law_said
  have R := T.errs
  have RV := T.errV
  obtain ⟨CS, hCS, hsub⟩ := R.top
  refine wordK_of ⟨f, fd, hm, Fu, b⟩ sc__law_said rfl (by first | exact Or.inl rfl | exact Or.inr (Or.inl rfl) | exact Or.inr (Or.inr rfl)) fun g cdv => ?_
  exact word_gives (cs := errs) (gs := gs__law_said) (gr := gr__law_said) (ie := 1) (e := "SiegeError") (n := "e") sc__law_said.nd rfl rfl (by decide) rfl hCS (by decide) (fun _ _ _ _ => rfl) hsub
    (fun A outer s H hr c hc cls a d oe pn hcm hz hf => (sss_cons (by exact (ss_if (st_not (st_tru (SE.sb (se_isV R RV hc hcm hz hf 1 rfl (by first | exact Or.inl rfl | exact Or.inr (Or.inl rfl) | exact Or.inr (Or.inr rfl)) T.b_ValueError T.b_isinstance)))) (sss_one (by exact (ss_ret se_str))) sss_nil))
  (sss_cons (by exact (ss_asg (SF.se (sf_lst (sa_cons (se_isC R hc hcm hz hf 1 "NoTable" (by decide) rfl (by first | exact Or.inl rfl | exact Or.inr (Or.inl rfl) | exact Or.inr (Or.inr rfl)) T.b_isinstance) sa_nil))) (sg_name (pg_name (i := 2) sc__law_said.nd rfl (by first | exact Or.inl rfl | exact Or.inr rfl)))))
  (sss_one (by exact (ss_ret (se_if (st_cmp (opr_eq hr.units) ops_eq (SE.sb (se_cnt (sb_var (pv 2)) (sab_cons (SE.sb se_bl) sab_nil))) (SE.sb se_int) (nomark _)) (se_ix (SE.sb (SF.se (sf_lst (sa_cons se_str sa_nil)))) (SE.sb (se_idx (sb_var (pv 2)) (sab_cons (SE.sb se_bl) sab_nil))) (fun _ _ => rfl)) se_str)))))))
    (fun A outer s H hr => (sss_one (by exact (ss_ret se_str)))) (fun v hs p hs' h f => by cases M.pure_ok h; rfl) wx__law_said
def b__law_table : SM := (sSeq (sAsg (gBin pAdd (gC (.int 1)) (gB m__law_draw (gCons (gVar 0) (gCons (gC (.int 7)) gNil)))) (tgName 1))
  (sSeq (sMx (gBin pEq (gB m__law_draw (gCons (gVar 0) (gCons (gC (.int 2)) gNil))) (gC (.int 0))))
  (sRet (gB pTuple (gCons (gLc (iSeq (gVar 2)) (tgName 7) gYes (gB pTupP (gCons (gVarB 7) gNil)) [7]) gNil)))))
def m__law_table : List PV → M PV := fnM 8 b__law_table
theorem u__law_table (a0 : PV) : m__law_table [a0] = (b__law_table [.fz a0, .un, .un, .un, .un, .un, .un, .un] >>= fin) := fn_u
theorem k__law_table (T : Tp K mg) (U : Tq mg base) : Known P w K mg base "_law_table" 1 2 m__law_table := by
  obtain ⟨f, fd, hm, Fu, b⟩ := T.f__law_table
  exact known (k := 1) hm Fu b sc__law_table rfl fun cdv A outer s H E hr =>
  (sss_cons (by exact (ss_asg (se_op opr_add ops_add (SE.sb se_int) (SE.sb (se_call (k__law_draw T U) (hr.mono (by decide)) (sa_cons (se_var (pv 0)) (sa_cons se_int sa_nil)) (rows_cons (rows_cons rows_nil))))) (sg_name (pg_name (i := 1) sc__law_table.nd rfl (by first | exact Or.inl rfl | exact Or.inr rfl)))))
  (sss_mx (gf := (gBin pEq (gB m__law_draw (gCons (gVar 0) (gCons (gC (.int 2)) gNil))) (gC (.int 0))))
  (ps_setLc (i := 2) (own := [("fighter", 5)]) rfl sc__law_table.nd rfl rfl (sw_true rfl rfl rfl (by decide +kernel)) (si_range1 T.b_range (sa_cons (se_var (pv 1)) sa_nil) (hn := (rows_cons rows_nil))) (blkOk_by (N := n__law_table) (sc := (defScope s__law_table)) (by decide +kernel)) (fun _ _ _ _ _ => (sg_name (pg_name (i := 5) sc__law_table.nd rfl (by first | exact Or.inl rfl | exact Or.inr rfl)))) (fun _ _ _ _ _ => sts_nil) (fun _ _ _ _ _ => (sf_op op_rep opf_repL (SE.sb (SF.se (sf_lst (sa_cons se_bl sa_nil)))) (sb_var (pv 1)))))
  (ps_for PassesOwn.never rfl (si_range1 T.b_range (sa_cons (se_var (pv 1)) sa_nil) (hn := (rows_cons rows_nil))) (pg_name (i := 3) sc__law_table.nd rfl (by first | exact Or.inl rfl | exact Or.inr rfl)) (pss_one (ps_for PassesOwn.never rfl (si_range1 T.b_range (sa_cons (se_var (pv 3)) sa_nil) (hn := (rows_cons rows_nil))) (pg_name (i := 4) sc__law_table.nd rfl (by first | exact Or.inl rfl | exact Or.inr rfl)) (pss_cons (ps_asg (se_cmp (opr_eq hr.units) ops_eq (SE.sb (se_call (k__law_draw T U) (hr.mono (by decide)) (sa_cons (se_var (pv 0)) (sa_cons se_int sa_nil)) (rows_cons (rows_cons rows_nil)))) (SE.sb se_int) (nomark _)) (pg_name (i := 6) sc__law_table.nd rfl (by first | exact Or.inl rfl | exact Or.inr rfl))) (pss_one (ps_asg (se_tup (sa_cons (se_var (pv 6)) (sa_cons (se_not (se_var (pv 6))) sa_nil))) (pg_tup rfl (pgs_cons (pg_sub (pe_ix ix_seq (pv 2) (pv 3) (fun _ _ => rfl)) (pv 4) set_list) (pgs_cons (pg_sub (pe_ix ix_seq (pv 2) (pv 4) (fun _ _ => rfl)) (pv 3) set_list) pgs_nil)))))))))
  (sss_one (by exact (ss_ret (se_tuplec T.b_tuple (sab_cons (SE.sb (SF.se (sf_lc (own := [("row", 7)]) (is := [7]) sc__law_table.nd (blkOk_by (N := n__law_table) (sc := (defScope s__law_table)) (by decide +kernel)) (si_seq (se_var (pv 2))) (fun _ _ _ _ _ => (sg_name (pg_name (i := 7) sc__law_table.nd rfl (by first | exact Or.inl rfl | exact Or.inr rfl)))) (fun _ _ _ _ _ => sts_nil) (fun _ _ _ _ _ => (se_tupP T.b_tuple (sab_cons (sb_var (pv 7)) sab_nil)))))) sab_nil)))))))
def b__law_is_king : SM := (sSeq (sAsg (gLc (iEnumA (gCons (gBin pIx (gVarB 0) (gVarB 1)) gNil)) (tgTup 2 (tgCons (tgName 4) (tgCons (tgName 5) tgNil))) (gTru (gVarB 5)) (gVar 4) [4, 5]) (tgName 2))
  (sSeq (sAsg (gLc (iRange (gCons (gB pLen (gCons (gVarB 0) gNil)) gNil)) (tgName 4) (gAndT (gTB (gBin pNe (gVarB 4) (gVarB 1))) (gTB (gBin pNotIn (gVarB 4) (gVarB 2)))) (gVar 4) [4]) (tgName 3))
  (sRet (gB pAll (gCons (gLc (iSeq (gVar 3)) (tgName 4) gYes (gB pAny (gCons (gLc (iSeq (gVar 2)) (tgName 6) gYes (gBin pIx (gBin pIx (gVarB 0) (gVarB 6)) (gVarB 4)) [6]) gNil)) [4]) gNil)))))
def m__law_is_king : List PV → M PV := fnM 7 b__law_is_king
theorem u__law_is_king (a0 a1 : PV) : m__law_is_king [a0, a1] = (b__law_is_king [.fz a0, .fz a1, .un, .un, .un, .un, .un] >>= fin) := fn_u
theorem k__law_is_king (T : Tp K mg) (U : Tq mg base) : Known P w K mg base "_law_is_king" 2 1 m__law_is_king := by
  obtain ⟨f, fd, hm, Fu, b⟩ := T.f__law_is_king
  exact known (k := 0) hm Fu b sc__law_is_king rfl fun cdv A outer s H E hr =>
  (sss_cons (by exact (ss_asg (SF.se (sf_lc (own := [("other", 4), ("flag", 5)]) (is := [4, 5]) sc__law_is_king.nd (blkOk_by (N := n__law_is_king) (sc := (defScope s__law_is_king)) (by decide +kernel)) (si_enumA T.b_enumerate (sa_cons (se_ix (sb_var (pv 0)) (sb_var (pv 1)) (fun _ _ => rfl)) sa_nil) (hn := (rows_cons rows_nil))) (fun _ _ _ _ _ => (sg_tup rfl (sgs_cons (sg_name (pg_name (i := 4) sc__law_is_king.nd rfl (by first | exact Or.inl rfl | exact Or.inr rfl))) (sgs_cons (sg_name (pg_name (i := 5) sc__law_is_king.nd rfl (by first | exact Or.inl rfl | exact Or.inr rfl))) sgs_nil)))) (fun _ _ _ _ _ => (sts_one (st_tru (sb_var (pv 5))))) (fun _ _ _ _ _ => (se_var (pv 4))))) (sg_name (pg_name (i := 2) sc__law_is_king.nd rfl (by first | exact Or.inl rfl | exact Or.inr rfl)))))
  (sss_cons (by exact (ss_asgLc (i := 3) (own := [("other", 4)]) (is := [4]) sc__law_is_king.nd (blkOk_by (N := n__law_is_king) (sc := (defScope s__law_is_king)) (by decide +kernel)) (si_range1 T.b_range (sa_cons (se_len T.b_len (sab_cons (sb_var (pv 0)) sab_nil)) sa_nil) (hn := (rows_cons rows_nil))) (fun _ _ _ _ _ => (sg_name (pg_name (i := 4) sc__law_is_king.nd rfl (by first | exact Or.inl rfl | exact Or.inr rfl)))) (fun _ _ _ _ _ => (sts_one (st_w (sw_and (st_cmp (opr_ne hr.units) ops_ne (sb_var (pv 4)) (sb_var (pv 1)) (nomark _)) (sw_and1 (st_cmp op_notIn_seq (ops_in true) (sb_var (pv 4)) (sb_var (pv 2)) (by rfl))))))) (fun _ _ _ _ _ => (se_var (pv 4))) rfl rfl (sw_true rfl rfl rfl (by decide +kernel))))
  (sss_one (by exact (ss_ret (se_all T.b_all (sab_cons (SE.sb (SF.se (sf_lc (own := [("other", 4)]) (is := [4]) sc__law_is_king.nd (blkOk_by (N := n__law_is_king) (sc := (defScope s__law_is_king)) (by decide +kernel)) (si_seq (se_var (pv 3))) (fun _ _ _ _ _ => (sg_name (pg_name (i := 4) sc__law_is_king.nd rfl (by first | exact Or.inl rfl | exact Or.inr rfl)))) (fun _ _ _ _ _ => sts_nil) (fun _ _ _ _ _ => (se_any T.b_any (sab_cons (SE.sb (SF.se (sf_lc (own := [("by", 6)]) (is := [6]) sc__law_is_king.nd (blkOk_by (N := n__law_is_king) (sc := (relS _ (defScope s__law_is_king))) (by decide +kernel)) (si_seq (se_var (pv 2))) (fun _ _ _ _ _ => (sg_name (pg_name (i := 6) sc__law_is_king.nd rfl (by first | exact Or.inl rfl | exact Or.inr rfl)))) (fun _ _ _ _ _ => sts_nil) (fun _ _ _ _ _ => (se_ix (SE.sb (se_ix (sb_var (pv 0)) (sb_var (pv 6)) (fun _ _ => rfl))) (sb_var (pv 4)) (fun _ _ => rfl)))))) sab_nil)))))) sab_nil)))))))
def b__law_line : SM := (sSeq (sAsg (gLst (gCons (gTup gNil) gNil)) (tgName 1))
  (sSeq (sFor (iRange (gCons (gB pLen (gCons (gVarB 0) gNil)) gNil)) (tgName 2) (sSeq (sOwn (gLst gNil) 3)
  (sSeq (sFor (iSeq (gVar 1)) (tgName 4) (sSeq (sAsg (gLc (iRange (gCons (gB pLen (gCons (gVarB 0) gNil)) gNil)) (tgName 6) (gTB (gBin pNotIn (gVarB 6) (gVarB 4))) (gVar 6) [6]) (tgName 5))
  (sExt 3 (gLc (iSeq (gVar 5)) (tgName 6) (gOrT (gTB (gBin pEq (gB pLen (gCons (gVarB 4) gNil)) (gC (.int 0)))) (gTru (gBin pIx (gBin pIx (gVarB 0) (gBin pIx (gVarB 4) (gNeg (gC (.int 1))))) (gVarB 6)))) (gBin pAdd (gVarB 4) (gTup (gCons (gVar 6) gNil))) [6]))))
  (sFrz 3 (sAsg (gVar 3) (tgName 1))))))
  (sRet (gBin pIx (gVarB 1) (gC (.int 0))))))
def m__law_line : List PV → M PV := fnM 7 b__law_line
theorem u__law_line (a0 : PV) : m__law_line [a0] = (b__law_line [.fz a0, .un, .un, .un, .un, .un, .un] >>= fin) := fn_u
theorem k__law_line (T : Tp K mg) (U : Tq mg base) : Known P w K mg base "_law_line" 1 1 m__law_line := by
  obtain ⟨f, fd, hm, Fu, b⟩ := T.f__law_line
  exact known (k := 0) hm Fu b sc__law_line rfl fun cdv A outer s H E hr =>
  (sss_cons (by exact (ss_asg (SF.se (sf_lst (sa_cons (se_tup sa_nil) sa_nil))) (sg_name (pg_name (i := 1) sc__law_line.nd rfl (by first | exact Or.inl rfl | exact Or.inr rfl)))))
  (sss_cons (by exact (ss_for PassesOwn.never (si_range1 T.b_range (sa_cons (se_len T.b_len (sab_cons (sb_var (pv 0)) sab_nil)) sa_nil) (hn := (rows_cons rows_nil))) (sg_name (pg_name (i := 2) sc__law_line.nd rfl (by first | exact Or.inl rfl | exact Or.inr rfl))) (sss_cons (by exact (ss_own (i := 3) (sf_lst sa_nil) (pg_name (i := 3) sc__law_line.nd rfl (by first | exact Or.inl rfl | exact Or.inr rfl))))
  (sss_cons (by exact (ss_for PassesOwn.never (si_seq (se_var (pv 1))) (sg_name (pg_name (i := 4) sc__law_line.nd rfl (by first | exact Or.inl rfl | exact Or.inr rfl))) (sss_cons (by exact (ss_asgLc (i := 5) (own := [("one", 6)]) (is := [6]) sc__law_line.nd (blkOk_by (N := n__law_line) (sc := (defScope s__law_line)) (by decide +kernel)) (si_range1 T.b_range (sa_cons (se_len T.b_len (sab_cons (sb_var (pv 0)) sab_nil)) sa_nil) (hn := (rows_cons rows_nil))) (fun _ _ _ _ _ => (sg_name (pg_name (i := 6) sc__law_line.nd rfl (by first | exact Or.inl rfl | exact Or.inr rfl)))) (fun _ _ _ _ _ => (sts_one (st_cmp op_notIn_seq (ops_in true) (sb_var (pv 6)) (sb_var (pv 4)) (by rfl)))) (fun _ _ _ _ _ => (se_var (pv 6))) rfl rfl (sw_true rfl rfl rfl (by decide +kernel))))
  (sss_one (by exact (ss_ext (i := 3) (pv 3) (SF.se (sf_lc (own := [("one", 6)]) (is := [6]) sc__law_line.nd (blkOk_by (N := n__law_line) (sc := (defScope s__law_line)) (by decide +kernel)) (si_seq (se_var (pv 5))) (fun _ _ _ _ _ => (sg_name (pg_name (i := 6) sc__law_line.nd rfl (by first | exact Or.inl rfl | exact Or.inr rfl)))) (fun _ _ _ _ _ => (sts_one (st_w (sw_or (st_cmp (opr_eq hr.units) ops_eq (SE.sb (se_len T.b_len (sab_cons (sb_var (pv 4)) sab_nil))) (SE.sb se_int) (nomark _)) (sw_or1 (st_tru (SE.sb (se_ix (SE.sb (se_ix (sb_var (pv 0)) (SE.sb (se_ix (sb_var (pv 4)) (SE.sb (se_neg se_int)) (fun _ _ => rfl))) (fun _ _ => rfl))) (sb_var (pv 6)) (fun _ _ => rfl))))))))) (fun _ _ _ _ _ => (se_op opr_add ops_add (sb_var (pv 4)) (SE.sb (se_tup (sa_cons (se_var (pv 6)) sa_nil)))))))))))))
  (sss_frz 3 (sss_one (by exact (ss_asg (se_var (pv 3)) (sg_name (pg_name (i := 1) sc__law_line.nd rfl (by first | exact Or.inl rfl | exact Or.inr rfl)))))))))))
  (sss_one (by exact (ss_ret (se_ix (sb_var (pv 1)) (SE.sb se_int) (fun _ _ => rfl)))))))
def b__law_is_right : SM := (sSeq (sAsg (gB pRepr (gCons (gVarB 0) gNil)) (tgName 1))
  (sSeq (sAsg (gB pTuple (gCons (gLc (iRange (gCons (gB pLen (gCons (gVarB 0) gNil)) gNil)) (tgName 5) (gTru (gB m__law_is_king (gCons (gVar 0) (gCons (gVar 5) gNil)))) (gVar 5) [5]) gNil)) (tgName 2))
  (sSeq (sIf (gOrT (gTB (gBin pNe (gLst (gCons (gB m_kings (gCons (gVar 0) gNil)) (gCons (gB m_kings (gCons (gVar 0) gNil)) gNil))) (gLst (gCons (gVar 2) (gCons (gVar 2) gNil))))) (gTB (gBin pIn (gB pLen (gCons (gVarB 2) gNil)) (gTup (gCons (gC (.int 0)) (gCons (gC (.int 2)) gNil)))))) (sRet (gC (.bl false))) sNx)
  (sSeq (sAsg (gB pMaxD (gCons (gLc (iSeq (gVar 0)) (tgName 6) gYes (gMeth isPtp pCntP (gVarB 6) (gCons (gC (.bl true)) gNil)) [6]) gNil)) (tgName 3))
  (sSeq (sIf (gNotT (gTru (gB pAll (gCons (gLc (iEnumA (gCons (gVar 0) gNil)) (tgTup 2 (tgCons (tgName 5) (tgCons (tgName 6) tgNil))) (gTB (gBin pEq (gMeth isPtp pCntP (gVarB 6) (gCons (gC (.bl true)) gNil)) (gVarB 3))) (gBin pIn (gVarB 5) (gVarB 2)) [5, 6]) gNil)))) (sRet (gC (.bl false))) sNx)
  (sSeq (sAsg (gB m__law_line (gCons (gVar 0) gNil)) (tgName 4))
  (sRet (gAnd (gBin pEq (gLst (gCons (gB m_line_up (gCons (gVar 0) gNil)) (gCons (gB m_line_up (gCons (gVar 0) gNil)) gNil))) (gLst (gCons (gVar 4) (gCons (gVar 4) gNil)))) (gBin pEq (gB pRepr (gCons (gVarB 0) gNil)) (gVarB 1))))))))))
def m__law_is_right : List PV → M PV := fnM 7 b__law_is_right
theorem u__law_is_right (a0 : PV) : m__law_is_right [a0] = (b__law_is_right [.fz a0, .un, .un, .un, .un, .un, .un] >>= fin) := fn_u
theorem k__law_is_right (T : Tp K mg) (U : Tq mg base) : Known P w K mg base "_law_is_right" 1 4 m__law_is_right := by
  obtain ⟨f, fd, hm, Fu, b⟩ := T.f__law_is_right
  exact known (k := 3) hm Fu b sc__law_is_right rfl fun cdv A outer s H E hr =>
  (sss_cons (by exact (ss_asg (se_repr hr T.b_repr (sab_cons (sb_var (pv 0)) sab_nil)) (sg_name (pg_name (i := 1) sc__law_is_right.nd rfl (by first | exact Or.inl rfl | exact Or.inr rfl)))))
  (sss_cons (by exact (ss_asg (se_tuplec T.b_tuple (sab_cons (SE.sb (SF.se (sf_lc (own := [("one", 5)]) (is := [5]) sc__law_is_right.nd (blkOk_by (N := n__law_is_right) (sc := (defScope s__law_is_right)) (by decide +kernel)) (si_range1 T.b_range (sa_cons (se_len T.b_len (sab_cons (sb_var (pv 0)) sab_nil)) sa_nil) (hn := (rows_cons rows_nil))) (fun _ _ _ _ _ => (sg_name (pg_name (i := 5) sc__law_is_right.nd rfl (by first | exact Or.inl rfl | exact Or.inr rfl)))) (fun _ _ _ _ _ => (sts_one (st_tru (SE.sb (se_call (k__law_is_king T U) (hr.mono (by decide)) (sa_cons (se_var (pv 0)) (sa_cons (se_var (pv 5)) sa_nil)) (rows_cons (rows_cons rows_nil))))))) (fun _ _ _ _ _ => (se_var (pv 5)))))) sab_nil)) (sg_name (pg_name (i := 2) sc__law_is_right.nd rfl (by first | exact Or.inl rfl | exact Or.inr rfl)))))
  (sss_cons (by exact (ss_if (st_w (sw_or (st_cmp (opr_ne hr.units) ops_ne (SE.sb (SF.se (sf_lst (sa_cons (se_call (k_kings T U) (hr.mono (by decide)) (sa_cons (se_var (pv 0)) sa_nil) (rows_cons rows_nil)) (sa_cons (se_call (k_kings T U) (hr.mono (by decide)) (sa_cons (se_var (pv 0)) sa_nil) (rows_cons rows_nil)) sa_nil))))) (SE.sb (SF.se (sf_lst (sa_cons (se_var (pv 2)) (sa_cons (se_var (pv 2)) sa_nil))))) (nomark _)) (sw_or1 (st_cmp op_in_seq (ops_in false) (SE.sb (se_len T.b_len (sab_cons (sb_var (pv 2)) sab_nil))) (SE.sb (se_tup (sa_cons se_int (sa_cons se_int sa_nil)))) (by rfl))))) (sss_one (by exact (ss_ret se_bl))) sss_nil))
  (sss_cons (by exact (ss_asg (se_maxD hr.units T.b_max (sab_cons (SE.sb (SF.se (sf_lc (own := [("row", 6)]) (is := [6]) sc__law_is_right.nd (blkOk_by (N := n__law_is_right) (sc := (defScope s__law_is_right)) (by decide +kernel)) (si_seq (se_var (pv 0))) (fun _ _ _ _ _ => (sg_name (pg_name (i := 6) sc__law_is_right.nd rfl (by first | exact Or.inl rfl | exact Or.inr rfl)))) (fun _ _ _ _ _ => sts_nil) (fun _ _ _ _ _ => (se_cntP (sb_var (pv 6)) (sab_cons (SE.sb se_bl) sab_nil)))))) sab_nil)) (sg_name (pg_name (i := 3) sc__law_is_right.nd rfl (by first | exact Or.inl rfl | exact Or.inr rfl)))))
  (sss_cons (by exact (ss_if (st_not (st_tru (SE.sb (se_all T.b_all (sab_cons (SE.sb (SF.se (sf_lc (own := [("one", 5), ("row", 6)]) (is := [5, 6]) sc__law_is_right.nd (blkOk_by (N := n__law_is_right) (sc := (defScope s__law_is_right)) (by decide +kernel)) (si_enumA T.b_enumerate (sa_cons (se_var (pv 0)) sa_nil) (hn := (rows_cons rows_nil))) (fun _ _ _ _ _ => (sg_tup rfl (sgs_cons (sg_name (pg_name (i := 5) sc__law_is_right.nd rfl (by first | exact Or.inl rfl | exact Or.inr rfl))) (sgs_cons (sg_name (pg_name (i := 6) sc__law_is_right.nd rfl (by first | exact Or.inl rfl | exact Or.inr rfl))) sgs_nil)))) (fun _ _ _ _ _ => (sts_one (st_cmp (opr_eq hr.units) ops_eq (SE.sb (se_cntP (sb_var (pv 6)) (sab_cons (SE.sb se_bl) sab_nil))) (sb_var (pv 3)) (nomark _)))) (fun _ _ _ _ _ => (se_cmp op_in_seq (ops_in false) (sb_var (pv 5)) (sb_var (pv 2)) (by rfl)))))) sab_nil))))) (sss_one (by exact (ss_ret se_bl))) sss_nil))
  (sss_cons (by exact (ss_asg (se_call (k__law_line T U) (hr.mono (by decide)) (sa_cons (se_var (pv 0)) sa_nil) (rows_cons rows_nil)) (sg_name (pg_name (i := 4) sc__law_is_right.nd rfl (by first | exact Or.inl rfl | exact Or.inr rfl)))))
  (sss_one (by exact (ss_ret (se_and (se_cmp (opr_eq hr.units) ops_eq (SE.sb (SF.se (sf_lst (sa_cons (se_call (k_line_up T U) (hr.mono (by decide)) (sa_cons (se_var (pv 0)) sa_nil) (rows_cons rows_nil)) (sa_cons (se_call (k_line_up T U) (hr.mono (by decide)) (sa_cons (se_var (pv 0)) sa_nil) (rows_cons rows_nil)) sa_nil))))) (SE.sb (SF.se (sf_lst (sa_cons (se_var (pv 4)) (sa_cons (se_var (pv 4)) sa_nil))))) (nomark _)) (se_one (se_cmp (opr_eq hr.units) ops_eq (SE.sb (se_repr hr T.b_repr (sab_cons (sb_var (pv 0)) sab_nil))) (sb_var (pv 1)) (nomark _)))))))))))))
def bx__law_is_right : SM := (sSeq (sAsg (gB pRepr (gCons (gVarB 0) gNil)) (tgName 1))
  (sSeq (sAsg (gB pTuple (gCons (gLc (iRange (gCons (gB pLen (gCons (gVarB 0) gNil)) gNil)) (tgName 5) (gTru (gB m__law_is_king (gCons (gVar 0) (gCons (gVar 5) gNil)))) (gVar 5) [5]) gNil)) (tgName 2))
  (sSeq (sIf (gOrT (gTB (gBin pNe (gLst (gCons (gB m_kings (gCons (gVar 0) gNil)) (gCons (gB m_kings (gCons (gVar 0) gNil)) gNil))) (gLst (gCons (gVar 2) (gCons (gVar 2) gNil))))) (gTB (gBin pIn (gB pLen (gCons (gVarB 2) gNil)) (gTup (gCons (gC (.int 0)) (gCons (gC (.int 2)) gNil)))))) (sRet (gC (.bl false))) sNx)
  (sSeq (sAsg (gB pMaxD (gCons (gLc (iSeq (gVar 0)) (tgName 6) gYes (gMeth isPtp pCntP (gVarB 6) (gCons (gC (.bl true)) gNil)) [6]) gNil)) (tgName 3))
  (sSeq (sIf (gNotT (gTru (gB pAll (gCons (gLc (iEnumA (gCons (gVar 0) gNil)) (tgTup 2 (tgCons (tgName 5) (tgCons (tgName 6) tgNil))) (gTB (gBin pEq (gMeth isPtp pCntP (gVarB 6) (gCons (gC (.bl true)) gNil)) (gVarB 3))) (gBin pIn (gVarB 5) (gVarB 2)) [5, 6]) gNil)))) (sRet (gC (.bl false))) sNx)
  (sSeq (sAsg (gB m__law_line (gCons (gVar 0) gNil)) (tgName 4))
  (sRet (gAnd (gBin pEq (gLst (gCons (gB m_line_up (gCons (gVar 0) gNil)) (gCons (gB m_line_up (gCons (gVar 0) gNil)) gNil))) (gLst (gCons (gVar 4) (gCons (gVar 4) gNil)))) (gBin pEq (gB pRepr (gCons (gVarB 0) gNil)) (gVarB 1))))))))))
def mx__law_is_right : List PV → M PE' := fnX 7 bx__law_is_right
theorem ux__law_is_right (a0 : PV) : mx__law_is_right [a0] = (bx__law_is_right [.fz a0, .un, .un, .un, .un, .un, .un] >>= finX) := fnX_u
theorem x__law_is_right (T : Tp K mg) (U : Tq mg base) : KnownX P w K mg base "_law_is_right" 1 4 mx__law_is_right := by
  obtain ⟨f, fd, hm, Fu, b⟩ := T.f__law_is_right
  exact knownX (k := 3) hm Fu b sc__law_is_right rfl fun W cdv A outer s H E hr tk =>
  (sss_cons (by exact (ss_asg (se_repr hr T.b_repr (sab_cons (sb_var (pv 0)) sab_nil)) (sg_name (pg_name (i := 1) sc__law_is_right.nd rfl (by first | exact Or.inl rfl | exact Or.inr rfl)))))
  (sss_cons (by exact (ss_asg (se_tuplec T.b_tuple (sab_cons (SE.sb (SF.se (sf_lc (own := [("one", 5)]) (is := [5]) sc__law_is_right.nd (blkOk_by (N := n__law_is_right) (sc := (defScope s__law_is_right)) (by decide +kernel)) (si_range1 T.b_range (sa_cons (se_len T.b_len (sab_cons (sb_var (pv 0)) sab_nil)) sa_nil) (hn := (rows_cons rows_nil))) (fun _ _ _ _ _ => (sg_name (pg_name (i := 5) sc__law_is_right.nd rfl (by first | exact Or.inl rfl | exact Or.inr rfl)))) (fun _ _ _ _ _ => (sts_one (st_tru (SE.sb (se_call (k__law_is_king T U) (hr.mono (by decide)) (sa_cons (se_var (pv 0)) (sa_cons (se_var (pv 5)) sa_nil)) (rows_cons (rows_cons rows_nil))))))) (fun _ _ _ _ _ => (se_var (pv 5)))))) sab_nil)) (sg_name (pg_name (i := 2) sc__law_is_right.nd rfl (by first | exact Or.inl rfl | exact Or.inr rfl)))))
  (sss_cons (by exact (ss_if (st_w (sw_or (st_cmp (opr_ne hr.units) ops_ne (SE.sb (SF.se (sf_lst (sa_cons (se_call (k_kings T U) (hr.mono (by decide)) (sa_cons (se_var (pv 0)) sa_nil) (rows_cons rows_nil)) (sa_cons (se_call (k_kings T U) (hr.mono (by decide)) (sa_cons (se_var (pv 0)) sa_nil) (rows_cons rows_nil)) sa_nil))))) (SE.sb (SF.se (sf_lst (sa_cons (se_var (pv 2)) (sa_cons (se_var (pv 2)) sa_nil))))) (nomark _)) (sw_or1 (st_cmp op_in_seq (ops_in false) (SE.sb (se_len T.b_len (sab_cons (sb_var (pv 2)) sab_nil))) (SE.sb (se_tup (sa_cons se_int (sa_cons se_int sa_nil)))) (by rfl))))) (sss_one (by exact (ss_ret se_bl))) sss_nil))
  (sss_cons (by exact (ss_asg (se_maxD hr.units T.b_max (sab_cons (SE.sb (SF.se (sf_lc (own := [("row", 6)]) (is := [6]) sc__law_is_right.nd (blkOk_by (N := n__law_is_right) (sc := (defScope s__law_is_right)) (by decide +kernel)) (si_seq (se_var (pv 0))) (fun _ _ _ _ _ => (sg_name (pg_name (i := 6) sc__law_is_right.nd rfl (by first | exact Or.inl rfl | exact Or.inr rfl)))) (fun _ _ _ _ _ => sts_nil) (fun _ _ _ _ _ => (se_cntP (sb_var (pv 6)) (sab_cons (SE.sb se_bl) sab_nil)))))) sab_nil)) (sg_name (pg_name (i := 3) sc__law_is_right.nd rfl (by first | exact Or.inl rfl | exact Or.inr rfl)))))
  (sss_cons (by exact (ss_if (st_not (st_tru (SE.sb (se_all T.b_all (sab_cons (SE.sb (SF.se (sf_lc (own := [("one", 5), ("row", 6)]) (is := [5, 6]) sc__law_is_right.nd (blkOk_by (N := n__law_is_right) (sc := (defScope s__law_is_right)) (by decide +kernel)) (si_enumA T.b_enumerate (sa_cons (se_var (pv 0)) sa_nil) (hn := (rows_cons rows_nil))) (fun _ _ _ _ _ => (sg_tup rfl (sgs_cons (sg_name (pg_name (i := 5) sc__law_is_right.nd rfl (by first | exact Or.inl rfl | exact Or.inr rfl))) (sgs_cons (sg_name (pg_name (i := 6) sc__law_is_right.nd rfl (by first | exact Or.inl rfl | exact Or.inr rfl))) sgs_nil)))) (fun _ _ _ _ _ => (sts_one (st_cmp (opr_eq hr.units) ops_eq (SE.sb (se_cntP (sb_var (pv 6)) (sab_cons (SE.sb se_bl) sab_nil))) (sb_var (pv 3)) (nomark _)))) (fun _ _ _ _ _ => (se_cmp op_in_seq (ops_in false) (sb_var (pv 5)) (sb_var (pv 2)) (by rfl)))))) sab_nil))))) (sss_one (by exact (ss_ret se_bl))) sss_nil))
  (sss_cons (by exact (ss_asg (se_call (k__law_line T U) (hr.mono (by decide)) (sa_cons (se_var (pv 0)) sa_nil) (rows_cons rows_nil)) (sg_name (pg_name (i := 4) sc__law_is_right.nd rfl (by first | exact Or.inl rfl | exact Or.inr rfl)))))
  (sss_one (by exact (ss_ret (se_and (se_cmp (opr_eq hr.units) ops_eq (SE.sb (SF.se (sf_lst (sa_cons (se_call (k_line_up T U) (hr.mono (by decide)) (sa_cons (se_var (pv 0)) sa_nil) (rows_cons rows_nil)) (sa_cons (se_call (k_line_up T U) (hr.mono (by decide)) (sa_cons (se_var (pv 0)) sa_nil) (rows_cons rows_nil)) sa_nil))))) (SE.sb (SF.se (sf_lst (sa_cons (se_var (pv 4)) (sa_cons (se_var (pv 4)) sa_nil))))) (nomark _)) (se_one (se_cmp (opr_eq hr.units) ops_eq (SE.sb (se_repr hr T.b_repr (sab_cons (sb_var (pv 0)) sab_nil))) (sb_var (pv 1)) (nomark _)))))))))))))
def b0_law : SM := (sOwn (gB m__law_hand (gCons (gVar 0) gNil)) 1)
def b_law : SM := (sSeq (sAsg (gTup (gCons (gTup (gCons (gC (.bl false)) (gCons (gC (.bl true)) (gCons (gC (.bl false)) gNil)))) (gCons (gTup (gCons (gC (.bl false)) (gCons (gC (.bl false)) (gCons (gC (.bl true)) gNil)))) (gCons (gTup (gCons (gC (.bl true)) (gCons (gC (.bl false)) (gCons (gC (.bl false)) gNil)))) gNil)))) (tgName 2))
  (sSeq (sIf (gOrT (gTB (gBin pNe (gB m_kings (gCons (gVar 2) gNil)) (gTup (gCons (gC (.int 0)) (gCons (gC (.int 1)) (gCons (gC (.int 2)) gNil)))))) (gOrT (gTB (gBin pNe (gB m_line_up (gCons (gVar 2) gNil)) (gTup (gCons (gC (.int 0)) (gCons (gC (.int 1)) (gCons (gC (.int 2)) gNil)))))) (gTB (gBin pNe (gB m_kings (gCons (gTup (gCons (gTup (gCons (gC (.bl false)) gNil)) gNil)) gNil)) (gTup (gCons (gC (.int 0)) gNil)))))) (sRet (gC (.bl false))) sNx)
  (sSeq (sIf (gOrT (gTB (gBin pNe (gB m_line_up (gCons (gTup (gCons (gTup (gCons (gC (.bl false)) (gCons (gC (.bl false)) gNil))) (gCons (gTup (gCons (gC (.bl true)) (gCons (gC (.bl false)) gNil))) gNil))) gNil)) (gTup (gCons (gC (.int 1)) (gCons (gC (.int 0)) gNil))))) (gTB (gBin pNe (gB m_kings (gCons (gTup (gCons (gTup (gCons (gC (.bl false)) (gCons (gC (.bl false)) gNil))) (gCons (gTup (gCons (gC (.bl true)) (gCons (gC (.bl false)) gNil))) gNil))) gNil)) (gTup (gCons (gC (.int 1)) gNil))))) (sRet (gC (.bl false))) sNx)
  (sSeq (sFor (iRange (gCons (gC (.int 6)) gNil)) (tgName 3) (sSeq (sIf (gNotT (gTru (gB m__law_is_right (gCons (gB m__law_table (gCons (gVar 1) gNil)) gNil)))) (sRet (gC (.bl false))) sNx)
  (sSeq (sAsg (gLst (gCons (gC .non) (gCons (gTup gNil) (gCons (gTup (gCons (gTup (gCons (gC (.bl true)) gNil)) gNil)) (gCons (gLst (gCons (gTup (gCons (gC (.bl false)) gNil)) gNil)) (gCons (gTup (gCons (gLst (gCons (gC (.bl false)) gNil)) gNil)) (gCons (gTup (gCons (gTup (gCons (gC (.bl false)) (gCons (gC (.bl true)) gNil))) (gCons (gTup (gCons (gC (.bl true)) (gCons (gC (.bl false)) gNil))) gNil))) gNil))))))) (tgName 4))
  (sSeq (sAsg (gBin pAdd (gVarB 4) (gLst (gCons (gTup (gCons (gTup (gCons (gC (.bl false)) (gCons (gC (.bl false)) gNil))) (gCons (gTup (gCons (gC (.bl false)) (gCons (gC (.bl false)) gNil))) gNil))) gNil))) (tgName 4))
  (sSeq (sAsg (gBin pAdd (gVarB 4) (gLst (gCons (gTup (gCons (gTup (gCons (gC (.int 0)) gNil)) gNil)) (gCons (gTup (gCons (gTup (gCons (gC (.bl false)) (gCons (gC (.bl true)) gNil))) gNil)) (gCons (gTup (gCons (gTup (gCons (gC (.str "x")) gNil)) gNil)) (gCons (gC (.int 0)) (gCons (gC (.str "x")) (gCons gNewK (gCons (gBin pRepT (gTup (gCons (gBin pRepT (gTup (gCons (gC (.bl false)) gNil)) (gC (.int 8))) gNil)) (gC (.int 8))) (gCons (gTup (gCons (gTup (gCons (gC .non) gNil)) gNil)) gNil)))))))))) (tgName 4))
  (sSeq (sAsg (gBin pAdd (gVarB 4) (gLst (gCons (gTup (gCons (gTup (gCons (gC (.bl false)) (gCons (gC (.int 1)) gNil))) (gCons (gTup (gCons (gC (.int 0)) (gCons (gC (.bl false)) gNil))) gNil))) gNil))) (tgName 4))
  (sSeq (sAsg (gB m__law_any (gCons (gVar 1) (gCons (gBin pAdd (gVarB 4) (gLst (gCons (gB m__law_deep (gCons (gVar 1) gNil)) gNil))) gNil))) (tgName 5))
  (sSeq (sAsg (gLst (gCons (gWord wm__law_said (gBX mx_kings (gCons (gVar 5) gNil))) (gCons (gWord wm__law_said (gBX mx_line_up (gCons (gVar 5) gNil))) gNil))) (tgName 6))
  (sIf (gTB (gBin pNe (gVarB 6) (gLst (gCons (gC (.str "table")) (gCons (gC (.str "table")) gNil))))) (sRet (gC (.bl false))) sNx)))))))))
  (sRet (gC (.bl true)))))))
def m_law : List PV → M PV := fnM 7 (sSeq b0_law (sHand 1 b_law))
abbrev law0 : Stmt := (defBody s_law).headD (.Pass ⟨0, 0, 0, 0⟩)
abbrev lawR : List Stmt := (defBody s_law).tail
theorem w_law (T : Tp K mg) (U : Tq mg base) {f : Addr} (A : Around) (outer : List Env) (s : Shared) (H : Hp) (E : XK) (hr : SL.Room 6 (A.deeper (envOfC "law" (defScope s_law) s.heap.objs.size f (.ref cA_law)))) : SSs (cxOf CX0 P w K mg base n_law "law" (defScope s_law) f (.ref cA_law) A outer s H E).nox noW lawR b_law :=
  (sss_cons (by exact (ss_asg (se_tup (sa_cons (se_tup (sa_cons se_bl (sa_cons se_bl (sa_cons se_bl sa_nil)))) (sa_cons (se_tup (sa_cons se_bl (sa_cons se_bl (sa_cons se_bl sa_nil)))) (sa_cons (se_tup (sa_cons se_bl (sa_cons se_bl (sa_cons se_bl sa_nil)))) sa_nil)))) (sg_name (pg_name (i := 2) sc_law.nd rfl (by first | exact Or.inl rfl | exact Or.inr rfl)))))
  (sss_cons (by exact (ss_if (st_w (sw_or (st_cmp (opr_ne hr.units) ops_ne (SE.sb (se_call (k_kings T U) (hr.mono (by decide)) (sa_cons (se_var (pv 2)) sa_nil) (rows_cons rows_nil))) (SE.sb (se_tup (sa_cons se_int (sa_cons se_int (sa_cons se_int sa_nil))))) (nomark _)) (sw_or (st_cmp (opr_ne hr.units) ops_ne (SE.sb (se_call (k_line_up T U) (hr.mono (by decide)) (sa_cons (se_var (pv 2)) sa_nil) (rows_cons rows_nil))) (SE.sb (se_tup (sa_cons se_int (sa_cons se_int (sa_cons se_int sa_nil))))) (nomark _)) (sw_or1 (st_cmp (opr_ne hr.units) ops_ne (SE.sb (se_call (k_kings T U) (hr.mono (by decide)) (sa_cons (se_tup (sa_cons (se_tup (sa_cons se_bl sa_nil)) sa_nil)) sa_nil) (rows_cons rows_nil))) (SE.sb (se_tup (sa_cons se_int sa_nil))) (nomark _)))))) (sss_one (by exact (ss_ret se_bl))) sss_nil))
  (sss_cons (by exact (ss_if (st_w (sw_or (st_cmp (opr_ne hr.units) ops_ne (SE.sb (se_call (k_line_up T U) (hr.mono (by decide)) (sa_cons (se_tup (sa_cons (se_tup (sa_cons se_bl (sa_cons se_bl sa_nil))) (sa_cons (se_tup (sa_cons se_bl (sa_cons se_bl sa_nil))) sa_nil))) sa_nil) (rows_cons rows_nil))) (SE.sb (se_tup (sa_cons se_int (sa_cons se_int sa_nil)))) (nomark _)) (sw_or1 (st_cmp (opr_ne hr.units) ops_ne (SE.sb (se_call (k_kings T U) (hr.mono (by decide)) (sa_cons (se_tup (sa_cons (se_tup (sa_cons se_bl (sa_cons se_bl sa_nil))) (sa_cons (se_tup (sa_cons se_bl (sa_cons se_bl sa_nil))) sa_nil))) sa_nil) (rows_cons rows_nil))) (SE.sb (se_tup (sa_cons se_int sa_nil))) (nomark _))))) (sss_one (by exact (ss_ret se_bl))) sss_nil))
  (sss_cons (by exact (ss_for PassesOwn.never (si_range1 T.b_range (sa_cons se_int sa_nil) (hn := (rows_cons rows_nil))) (sg_name (pg_name (i := 3) sc_law.nd rfl (by first | exact Or.inl rfl | exact Or.inr rfl))) (sss_cons (by exact (ss_if (st_not (st_tru (SE.sb (se_call (k__law_is_right T U) (hr.mono (by decide)) (sa_cons (se_call (k__law_table T U) (hr.mono (by decide)) (sa_cons (se_var (pv 1)) sa_nil) (rows_cons rows_nil)) sa_nil) (rows_cons rows_nil))))) (sss_one (by exact (ss_ret se_bl))) sss_nil))
  (sss_cons (by exact (ss_asg (SF.se (sf_lst (sa_cons se_non (sa_cons (se_tup sa_nil) (sa_cons (se_tup (sa_cons (se_tup (sa_cons se_bl sa_nil)) sa_nil)) (sa_cons (SF.se (sf_lst (sa_cons (se_tup (sa_cons se_bl sa_nil)) sa_nil))) (sa_cons (se_tup (sa_cons (SF.se (sf_lst (sa_cons se_bl sa_nil))) sa_nil)) (sa_cons (se_tup (sa_cons (se_tup (sa_cons se_bl (sa_cons se_bl sa_nil))) (sa_cons (se_tup (sa_cons se_bl (sa_cons se_bl sa_nil))) sa_nil))) sa_nil)))))))) (sg_name (pg_name (i := 4) sc_law.nd rfl (by first | exact Or.inl rfl | exact Or.inr rfl)))))
  (sss_cons (by exact (ss_asg (se_op opr_add ops_add (sb_var (pv 4)) (SE.sb (SF.se (sf_lst (sa_cons (se_tup (sa_cons (se_tup (sa_cons se_bl (sa_cons se_bl sa_nil))) (sa_cons (se_tup (sa_cons se_bl (sa_cons se_bl sa_nil))) sa_nil))) sa_nil))))) (sg_name (pg_name (i := 4) sc_law.nd rfl (by first | exact Or.inl rfl | exact Or.inr rfl)))))
  (sss_cons (by exact (ss_asg (se_op opr_add ops_add (sb_var (pv 4)) (SE.sb (SF.se (sf_lst (sa_cons (se_tup (sa_cons (se_tup (sa_cons se_int sa_nil)) sa_nil)) (sa_cons (se_tup (sa_cons (se_tup (sa_cons se_bl (sa_cons se_bl sa_nil))) sa_nil)) (sa_cons (se_tup (sa_cons (se_tup (sa_cons se_str sa_nil)) sa_nil)) (sa_cons se_int (sa_cons se_str (sa_cons (SF.se sf_newK) (sa_cons (se_op op_repT ops_repT (SE.sb (se_tup (sa_cons (se_op op_repT ops_repT (SE.sb (se_tup (sa_cons se_bl sa_nil))) (SE.sb se_int)) sa_nil))) (SE.sb se_int)) (sa_cons (se_tup (sa_cons (se_tup (sa_cons se_non sa_nil)) sa_nil)) sa_nil)))))))))))) (sg_name (pg_name (i := 4) sc_law.nd rfl (by first | exact Or.inl rfl | exact Or.inr rfl)))))
  (sss_cons (by exact (ss_asg (se_op opr_add ops_add (sb_var (pv 4)) (SE.sb (SF.se (sf_lst (sa_cons (se_tup (sa_cons (se_tup (sa_cons se_bl (sa_cons se_int sa_nil))) (sa_cons (se_tup (sa_cons se_int (sa_cons se_bl sa_nil))) sa_nil))) sa_nil))))) (sg_name (pg_name (i := 4) sc_law.nd rfl (by first | exact Or.inl rfl | exact Or.inr rfl)))))
  (sss_cons (by exact (ss_asg (se_call (k__law_any T U) (hr.mono (by decide)) (sa_cons (se_var (pv 1)) (sa_cons (se_op opr_add ops_add (sb_var (pv 4)) (SE.sb (SF.se (sf_lst (sa_cons (se_call (k__law_deep T U) (hr.mono (by decide)) (sa_cons (se_var (pv 1)) sa_nil) (rows_cons rows_nil)) sa_nil))))) sa_nil)) (rows_cons (rows_cons rows_nil))) (sg_name (pg_name (i := 5) sc_law.nd rfl (by first | exact Or.inl rfl | exact Or.inr rfl)))))
  (sss_cons (by exact (ss_asg (SF.se (sf_lst (sa_cons (se_word (k := 4) (g := (gBX mx_kings (gCons (gVar 5) gNil))) (wk__law_said T U _) (U.t_law) rfl (by exact mem_tb0) (by exact uni_tb0) (hr.mono (by decide)) (lamS_by (sc := (defScope s_law)) (by decide +kernel)) rfl (fun _ _ _ _ _ => rfl) (fun A outer s H E f c' W hr tk => (sx_call (x_kings T U) (hr.mono (by decide)) tk (fun _ _ _ => trivial) (sa_cons (se_var (pv 5)) sa_nil) (rows_cons rows_nil)))) (sa_cons (se_wordD (k := 4) (g := (gBX mx_line_up (gCons (gVar 5) gNil))) (an := "again") (wk__law_said T U _) (U.t_law) rfl (by exact mem_tb0) (by exact uni_tb0) (hr.mono (by decide)) (lamD_by (sc := (defScope s_law)) (N := n_law) (by decide +kernel)) rfl rfl rfl (fun _ _ _ _ _ _ _ _ _ hT => BindsTo.of_defaults rfl hT rfl rfl rfl) (fun A outer s H E f c' W hr tk => (sx_call (x_line_up T U) (hr.mono (by decide)) tk (fun _ _ _ => trivial) (sa_cons (se_var (pv 5)) sa_nil) (rows_cons rows_nil)))) sa_nil)))) (sg_name (pg_name (i := 6) sc_law.nd rfl (by first | exact Or.inl rfl | exact Or.inr rfl)))))
  (sss_one (by exact (ss_if (st_cmp (opr_ne hr.units) ops_ne (sb_var (pv 6)) (SE.sb (SF.se (sf_lst (sa_cons se_str (sa_cons se_str sa_nil))))) (nomark _)) (sss_one (by exact (ss_ret se_bl))) sss_nil))))))))))))
  (sss_one (by exact (ss_ret se_bl)))))))
theorem k_law (T : Tp K mg) (U : Tq mg base) {f : Addr} {fd : FuncData} (Fu : FunC K "law" "law" s_law f fd cA_law) : SL.FnOk P w K mg base CX0 7 f fd ["script"] (spN K m_law) :=
  ok_lawC (k := 6) (g := b0_law) (s2 := b_law) (Ns := n_law) (s0 := law0) (sts := lawR) 1 Fu sc_law rfl (fun A outer s H E hr => (ss_own (i := 1) (sf_call (k__law_hand T U) (hr.mono (by decide)) (sa_cons (se_var (pv 0)) sa_nil) (rows_cons rows_nil)) (pg_name (i := 1) sc_law.nd rfl (by first | exact Or.inl rfl | exact Or.inr rfl)))) fun A outer s H E hr => w_law T U A outer s H E hr
end
def cs : List (Addr × Addr) := [(cA_law, pA_law)]
theorem all_mk {l : PySem.W.OpenLaw} {w : World} {K : PySem.W.Frag} {h : Heap} {mg : Str → Option Value} {fa : Addr} (X : K.In h) (G : h.Ns mainGlobals mg) (hfa : mg "law" = some (.ref fa)) (hlaw : ∀ ns : List Int, ns.length ≤ 63 → ∃ hs', m_law [.scr ns] [] = .ok (.bl true, hs'))
  {kNoTable : Addr}
  {kSiegeError : Addr}
  {tMOST_FIGHTERS : Tok}
  {fis_sized : Addr} {owis_sized kVis_sized dwis_sized pmis_sized cdis_sized ctis_sized : Value} {odis_sized anis_sized : Option Addr} {slis_sized : Array (Option Value)}
  {fcheck_table : Addr} {owcheck_table kVcheck_table dwcheck_table pmcheck_table cdcheck_table ctcheck_table : Value} {odcheck_table ancheck_table : Option Addr} {slcheck_table : Array (Option Value)}
  {fis_king : Addr} {owis_king kVis_king dwis_king pmis_king cdis_king ctis_king : Value} {odis_king anis_king : Option Addr} {slis_king : Array (Option Value)}
  {fkings : Addr} {owkings kVkings dwkings pmkings cdkings ctkings : Value} {odkings ankings : Option Addr} {slkings : Array (Option Value)}
  {fline_up : Addr} {owline_up kVline_up dwline_up pmline_up cdline_up ctline_up : Value} {odline_up anline_up : Option Addr} {slline_up : Array (Option Value)}
  {f_law_hand : Addr} {ow_law_hand kV_law_hand dw_law_hand pm_law_hand cd_law_hand ct_law_hand : Value} {od_law_hand an_law_hand : Option Addr} {sl_law_hand : Array (Option Value)}
  {f_law_draw : Addr} {ow_law_draw kV_law_draw dw_law_draw pm_law_draw cd_law_draw ct_law_draw : Value} {od_law_draw an_law_draw : Option Addr} {sl_law_draw : Array (Option Value)}
  {f_law_any : Addr} {ow_law_any kV_law_any dw_law_any pm_law_any cd_law_any ct_law_any : Value} {od_law_any an_law_any : Option Addr} {sl_law_any : Array (Option Value)}
  {f_law_deep : Addr} {ow_law_deep kV_law_deep dw_law_deep pm_law_deep cd_law_deep ct_law_deep : Value} {od_law_deep an_law_deep : Option Addr} {sl_law_deep : Array (Option Value)}
  {f_law_said : Addr} {ow_law_said kV_law_said dw_law_said pm_law_said cd_law_said ct_law_said : Value} {od_law_said an_law_said : Option Addr} {sl_law_said : Array (Option Value)}
  {f_law_table : Addr} {ow_law_table kV_law_table dw_law_table pm_law_table cd_law_table ct_law_table : Value} {od_law_table an_law_table : Option Addr} {sl_law_table : Array (Option Value)}
  {f_law_is_king : Addr} {ow_law_is_king kV_law_is_king dw_law_is_king pm_law_is_king cd_law_is_king ct_law_is_king : Value} {od_law_is_king an_law_is_king : Option Addr} {sl_law_is_king : Array (Option Value)}
  {f_law_line : Addr} {ow_law_line kV_law_line dw_law_line pm_law_line cd_law_line ct_law_line : Value} {od_law_line an_law_line : Option Addr} {sl_law_line : Array (Option Value)}
  {f_law_is_right : Addr} {ow_law_is_right kV_law_is_right dw_law_is_right pm_law_is_right cd_law_is_right ct_law_is_right : Value} {od_law_is_right an_law_is_right : Option Addr} {sl_law_is_right : Array (Option Value)}
  {flaw : Addr} {owlaw kVlaw dwlaw pmlaw ctlaw : Value} {odlaw anlaw : Option Addr} {sllaw : Array (Option Value)}
  (nNoTable : PySem.W.nsIn K mainGlobals "NoTable" = some (some (.ref kNoTable)))
  (nSiegeError : PySem.W.nsIn K mainGlobals "SiegeError" = some (some (.ref kSiegeError)))
  (bValueError : PySem.W.nsIn K mainGlobals "ValueError" = some none)
  (babs : PySem.W.nsIn K mainGlobals "abs" = some none)
  (ball : PySem.W.nsIn K mainGlobals "all" = some none)
  (bany : PySem.W.nsIn K mainGlobals "any" = some none)
  (bbool : PySem.W.nsIn K mainGlobals "bool" = some none)
  (benumerate : PySem.W.nsIn K mainGlobals "enumerate" = some none)
  (bint : PySem.W.nsIn K mainGlobals "int" = some none)
  (bisinstance : PySem.W.nsIn K mainGlobals "isinstance" = some none)
  (blen : PySem.W.nsIn K mainGlobals "len" = some none)
  (bmax : PySem.W.nsIn K mainGlobals "max" = some none)
  (brange : PySem.W.nsIn K mainGlobals "range" = some none)
  (brepr : PySem.W.nsIn K mainGlobals "repr" = some none)
  (btuple : PySem.W.nsIn K mainGlobals "tuple" = some none)
  (cMOST_FIGHTERS : PySem.W.nsIn K mainGlobals "MOST_FIGHTERS" = some (some (.int 7 tMOST_FIGHTERS)))
  (ais_sized : PySem.W.nsIn K mainGlobals "is_sized" = some (some (.ref fis_sized)))
  (lis_sized : K.lookup fis_sized = some ⟨owis_sized, odis_sized, .func (PySem.W.fnOf "is_sized" "is_sized" (defArgs s_is_sized) (defBody s_is_sized) (defScope s_is_sized) .none kVis_sized dwis_sized pmis_sized anis_sized cdis_sized ctis_sized), slis_sized⟩)
  (dis_sized : PySem.W.codeIn K cdis_sized "is_sized" = true)
  (eis_sized : PySem.W.keepIn K (.ref fis_sized) = true)
  (acheck_table : PySem.W.nsIn K mainGlobals "check_table" = some (some (.ref fcheck_table)))
  (lcheck_table : K.lookup fcheck_table = some ⟨owcheck_table, odcheck_table, .func (PySem.W.fnOf "check_table" "check_table" (defArgs s_check_table) (defBody s_check_table) (defScope s_check_table) .none kVcheck_table dwcheck_table pmcheck_table ancheck_table cdcheck_table ctcheck_table), slcheck_table⟩)
  (dcheck_table : PySem.W.codeIn K cdcheck_table "check_table" = true)
  (echeck_table : PySem.W.keepIn K (.ref fcheck_table) = true)
  (ais_king : PySem.W.nsIn K mainGlobals "is_king" = some (some (.ref fis_king)))
  (lis_king : K.lookup fis_king = some ⟨owis_king, odis_king, .func (PySem.W.fnOf "is_king" "is_king" (defArgs s_is_king) (defBody s_is_king) (defScope s_is_king) .none kVis_king dwis_king pmis_king anis_king cdis_king ctis_king), slis_king⟩)
  (dis_king : PySem.W.codeIn K cdis_king "is_king" = true)
  (eis_king : PySem.W.keepIn K (.ref fis_king) = true)
  (akings : PySem.W.nsIn K mainGlobals "kings" = some (some (.ref fkings)))
  (lkings : K.lookup fkings = some ⟨owkings, odkings, .func (PySem.W.fnOf "kings" "kings" (defArgs s_kings) (defBody s_kings) (defScope s_kings) .none kVkings dwkings pmkings ankings cdkings ctkings), slkings⟩)
  (dkings : PySem.W.codeIn K cdkings "kings" = true)
  (ekings : PySem.W.keepIn K (.ref fkings) = true)
  (aline_up : PySem.W.nsIn K mainGlobals "line_up" = some (some (.ref fline_up)))
  (lline_up : K.lookup fline_up = some ⟨owline_up, odline_up, .func (PySem.W.fnOf "line_up" "line_up" (defArgs s_line_up) (defBody s_line_up) (defScope s_line_up) .none kVline_up dwline_up pmline_up anline_up cdline_up ctline_up), slline_up⟩)
  (dline_up : PySem.W.codeIn K cdline_up "line_up" = true)
  (eline_up : PySem.W.keepIn K (.ref fline_up) = true)
  (a_law_hand : PySem.W.nsIn K mainGlobals "_law_hand" = some (some (.ref f_law_hand)))
  (l_law_hand : K.lookup f_law_hand = some ⟨ow_law_hand, od_law_hand, .func (PySem.W.fnOf "_law_hand" "_law_hand" (defArgs s__law_hand) (defBody s__law_hand) (defScope s__law_hand) .none kV_law_hand dw_law_hand pm_law_hand an_law_hand cd_law_hand ct_law_hand), sl_law_hand⟩)
  (d_law_hand : PySem.W.codeIn K cd_law_hand "_law_hand" = true)
  (e_law_hand : PySem.W.keepIn K (.ref f_law_hand) = true)
  (a_law_draw : PySem.W.nsIn K mainGlobals "_law_draw" = some (some (.ref f_law_draw)))
  (l_law_draw : K.lookup f_law_draw = some ⟨ow_law_draw, od_law_draw, .func (PySem.W.fnOf "_law_draw" "_law_draw" (defArgs s__law_draw) (defBody s__law_draw) (defScope s__law_draw) .none kV_law_draw dw_law_draw pm_law_draw an_law_draw cd_law_draw ct_law_draw), sl_law_draw⟩)
  (d_law_draw : PySem.W.codeIn K cd_law_draw "_law_draw" = true)
  (e_law_draw : PySem.W.keepIn K (.ref f_law_draw) = true)
  (a_law_any : PySem.W.nsIn K mainGlobals "_law_any" = some (some (.ref f_law_any)))
  (l_law_any : K.lookup f_law_any = some ⟨ow_law_any, od_law_any, .func (PySem.W.fnOf "_law_any" "_law_any" (defArgs s__law_any) (defBody s__law_any) (defScope s__law_any) .none kV_law_any dw_law_any pm_law_any an_law_any cd_law_any ct_law_any), sl_law_any⟩)
  (d_law_any : PySem.W.codeIn K cd_law_any "_law_any" = true)
  (e_law_any : PySem.W.keepIn K (.ref f_law_any) = true)
  (a_law_deep : PySem.W.nsIn K mainGlobals "_law_deep" = some (some (.ref f_law_deep)))
  (l_law_deep : K.lookup f_law_deep = some ⟨ow_law_deep, od_law_deep, .func (PySem.W.fnOf "_law_deep" "_law_deep" (defArgs s__law_deep) (defBody s__law_deep) (defScope s__law_deep) .none kV_law_deep dw_law_deep pm_law_deep an_law_deep cd_law_deep ct_law_deep), sl_law_deep⟩)
  (d_law_deep : PySem.W.codeIn K cd_law_deep "_law_deep" = true)
  (e_law_deep : PySem.W.keepIn K (.ref f_law_deep) = true)
  (a_law_said : PySem.W.nsIn K mainGlobals "_law_said" = some (some (.ref f_law_said)))
  (l_law_said : K.lookup f_law_said = some ⟨ow_law_said, od_law_said, .func (PySem.W.fnOf "_law_said" "_law_said" (defArgs s__law_said) (defBody s__law_said) (defScope s__law_said) .none kV_law_said dw_law_said pm_law_said an_law_said cd_law_said ct_law_said), sl_law_said⟩)
  (d_law_said : PySem.W.codeIn K cd_law_said "_law_said" = true)
  (e_law_said : PySem.W.keepIn K (.ref f_law_said) = true)
  (a_law_table : PySem.W.nsIn K mainGlobals "_law_table" = some (some (.ref f_law_table)))
  (l_law_table : K.lookup f_law_table = some ⟨ow_law_table, od_law_table, .func (PySem.W.fnOf "_law_table" "_law_table" (defArgs s__law_table) (defBody s__law_table) (defScope s__law_table) .none kV_law_table dw_law_table pm_law_table an_law_table cd_law_table ct_law_table), sl_law_table⟩)
  (d_law_table : PySem.W.codeIn K cd_law_table "_law_table" = true)
  (e_law_table : PySem.W.keepIn K (.ref f_law_table) = true)
  (a_law_is_king : PySem.W.nsIn K mainGlobals "_law_is_king" = some (some (.ref f_law_is_king)))
  (l_law_is_king : K.lookup f_law_is_king = some ⟨ow_law_is_king, od_law_is_king, .func (PySem.W.fnOf "_law_is_king" "_law_is_king" (defArgs s__law_is_king) (defBody s__law_is_king) (defScope s__law_is_king) .none kV_law_is_king dw_law_is_king pm_law_is_king an_law_is_king cd_law_is_king ct_law_is_king), sl_law_is_king⟩)
  (d_law_is_king : PySem.W.codeIn K cd_law_is_king "_law_is_king" = true)
  (e_law_is_king : PySem.W.keepIn K (.ref f_law_is_king) = true)
  (a_law_line : PySem.W.nsIn K mainGlobals "_law_line" = some (some (.ref f_law_line)))
  (l_law_line : K.lookup f_law_line = some ⟨ow_law_line, od_law_line, .func (PySem.W.fnOf "_law_line" "_law_line" (defArgs s__law_line) (defBody s__law_line) (defScope s__law_line) .none kV_law_line dw_law_line pm_law_line an_law_line cd_law_line ct_law_line), sl_law_line⟩)
  (d_law_line : PySem.W.codeIn K cd_law_line "_law_line" = true)
  (e_law_line : PySem.W.keepIn K (.ref f_law_line) = true)
  (a_law_is_right : PySem.W.nsIn K mainGlobals "_law_is_right" = some (some (.ref f_law_is_right)))
  (l_law_is_right : K.lookup f_law_is_right = some ⟨ow_law_is_right, od_law_is_right, .func (PySem.W.fnOf "_law_is_right" "_law_is_right" (defArgs s__law_is_right) (defBody s__law_is_right) (defScope s__law_is_right) .none kV_law_is_right dw_law_is_right pm_law_is_right an_law_is_right cd_law_is_right ct_law_is_right), sl_law_is_right⟩)
  (d_law_is_right : PySem.W.codeIn K cd_law_is_right "_law_is_right" = true)
  (e_law_is_right : PySem.W.keepIn K (.ref f_law_is_right) = true)
  (alaw : PySem.W.nsIn K mainGlobals "law" = some (some (.ref flaw)))
  (llaw : K.lookup flaw = some ⟨owlaw, odlaw, .func (PySem.W.fnOf "law" "law" (defArgs s_law) (defBody s_law) (defScope s_law) .none kVlaw dwlaw pmlaw anlaw (.ref cA_law) ctlaw), sllaw⟩)
  (dlaw : PySem.W.codeIn K (.ref cA_law) "law" = true)
  (elaw : PySem.W.keepIn K (.ref flaw) = true)
  (her : errB K kSiegeError [("NoTable", kNoTable)] = true)
  (hev : valB K [("NoTable", kNoTable)] = true)
  (qNoTable : PySem.W.excIn K kNoTable veB "ValueError.__new__" = true)
  (hT : ∀ p ∈ cs, h.get? p.2 = some { cls := .none, data := .fields #[] }) (nT : ∀ p ∈ cs, K.lookup p.2 = none) (hC : ∀ p ∈ cs, PySem.W.CodeHd h p.1 p.2) :
  LawAtG l w K CX0 7 63 "script" mg fa h := by
  have e := hfa.symm.trans (PySem.W.mg_of X G alaw)
  cases e
  have hER : ErrK K mg errs "SiegeError" := errK_sub (errK_of (cs := [("NoTable", kNoTable)]) (List.forall_mem_cons.mpr ⟨PySem.W.mg_of X G nNoTable, (fun _ h => by cases h)⟩) (PySem.W.mg_of X G nSiegeError) her) (show ∀ c ∈ errs, c ∈ (["NoTable"] : List Str) by decide)
  have T : Tp K mg := Tp.mk (PySem.W.mg_none_of X G bValueError)
    (PySem.W.mg_none_of X G babs)
    (PySem.W.mg_none_of X G ball)
    (PySem.W.mg_none_of X G bany)
    (PySem.W.mg_none_of X G bbool)
    (PySem.W.mg_none_of X G benumerate)
    (PySem.W.mg_none_of X G bint)
    (PySem.W.mg_none_of X G bisinstance)
    (PySem.W.mg_none_of X G blen)
    (PySem.W.mg_none_of X G bmax)
    (PySem.W.mg_none_of X G brange)
    (PySem.W.mg_none_of X G brepr)
    (PySem.W.mg_none_of X G btuple)
    (⟨_, PySem.W.mg_of X G cMOST_FIGHTERS⟩)
    (exK_of (PySem.W.mg_of X G nNoTable) (errs_at her ("NoTable", kNoTable) (.head _)) qNoTable)
    (hER)
    (errV_of (cs := [("NoTable", kNoTable)]) (List.forall_mem_cons.mpr ⟨PySem.W.mg_of X G nNoTable, (fun _ h => by cases h)⟩) hev (show ∀ c ∈ errs, c ∈ (["NoTable"] : List Str) by decide))
    (⟨_, _, PySem.W.mg_of X G ais_sized, fun_mk lis_sized dis_sized eis_sized, (fun_mk lis_sized dis_sized eis_sized).binds fun _ _ _ _ _ _ us hl => match us, hl with | [_, _, _], _ => rfl⟩)
    (⟨_, _, PySem.W.mg_of X G acheck_table, fun_mk lcheck_table dcheck_table echeck_table, (fun_mk lcheck_table dcheck_table echeck_table).binds fun _ _ _ _ _ _ us hl => match us, hl with | [_], _ => rfl⟩)
    (⟨_, _, PySem.W.mg_of X G ais_king, fun_mk lis_king dis_king eis_king, (fun_mk lis_king dis_king eis_king).binds fun _ _ _ _ _ _ us hl => match us, hl with | [_, _], _ => rfl⟩)
    (⟨_, _, PySem.W.mg_of X G akings, fun_mk lkings dkings ekings, (fun_mk lkings dkings ekings).binds fun _ _ _ _ _ _ us hl => match us, hl with | [_], _ => rfl⟩)
    (⟨_, _, PySem.W.mg_of X G aline_up, fun_mk lline_up dline_up eline_up, (fun_mk lline_up dline_up eline_up).binds fun _ _ _ _ _ _ us hl => match us, hl with | [_], _ => rfl⟩)
    (⟨_, _, PySem.W.mg_of X G a_law_hand, fun_mk l_law_hand d_law_hand e_law_hand, (fun_mk l_law_hand d_law_hand e_law_hand).binds fun _ _ _ _ _ _ us hl => match us, hl with | [_], _ => rfl⟩)
    (⟨_, _, PySem.W.mg_of X G a_law_draw, fun_mk l_law_draw d_law_draw e_law_draw, (fun_mk l_law_draw d_law_draw e_law_draw).binds fun _ _ _ _ _ _ us hl => match us, hl with | [_, _], _ => rfl⟩)
    (⟨_, _, PySem.W.mg_of X G a_law_any, fun_mk l_law_any d_law_any e_law_any, (fun_mk l_law_any d_law_any e_law_any).binds fun _ _ _ _ _ _ us hl => match us, hl with | [_, _], _ => rfl⟩)
    (⟨_, _, PySem.W.mg_of X G a_law_deep, fun_mk l_law_deep d_law_deep e_law_deep, (fun_mk l_law_deep d_law_deep e_law_deep).binds fun _ _ _ _ _ _ us hl => match us, hl with | [_], _ => rfl⟩)
    (⟨_, _, PySem.W.mg_of X G a_law_said, fun_mk l_law_said d_law_said e_law_said, (fun_mk l_law_said d_law_said e_law_said).binds fun _ _ _ _ _ _ us hl => match us, hl with | [_], _ => rfl⟩)
    (⟨_, _, PySem.W.mg_of X G a_law_table, fun_mk l_law_table d_law_table e_law_table, (fun_mk l_law_table d_law_table e_law_table).binds fun _ _ _ _ _ _ us hl => match us, hl with | [_], _ => rfl⟩)
    (⟨_, _, PySem.W.mg_of X G a_law_is_king, fun_mk l_law_is_king d_law_is_king e_law_is_king, (fun_mk l_law_is_king d_law_is_king e_law_is_king).binds fun _ _ _ _ _ _ us hl => match us, hl with | [_, _], _ => rfl⟩)
    (⟨_, _, PySem.W.mg_of X G a_law_line, fun_mk l_law_line d_law_line e_law_line, (fun_mk l_law_line d_law_line e_law_line).binds fun _ _ _ _ _ _ us hl => match us, hl with | [_], _ => rfl⟩)
    (⟨_, _, PySem.W.mg_of X G a_law_is_right, fun_mk l_law_is_right d_law_is_right e_law_is_right, (fun_mk l_law_is_right d_law_is_right e_law_is_right).binds fun _ _ _ _ _ _ us hl => match us, hl with | [_], _ => rfl⟩)
  refine ⟨PySem.W.fnOf "law" "law" (defArgs s_law) (defBody s_law) (defScope s_law) .none kVlaw dwlaw pmlaw anlaw (.ref cA_law) ctlaw, cs, spN K m_law, hT, nT, hC, fun s v => .of_eq rfl, fun H a ns hl hb hH hS => law_sp1 hl (tabs_nil ?_) hS (hlaw ns hl), fun base hb hn TB => ?_⟩
  · exact List.forall_mem_cons.mpr ⟨hH (cA_law, pA_law) (.head _), (fun _ h => by cases h)⟩
  · have U : Tq mg base := ⟨TB (cA_law, pA_law) (.head _)⟩
    exact k_law T U (funC_mk llaw dlaw elaw)
end SLP

end
section
namespace SLP
open PySem L2 SL
/-! ### what the law draws -/
def HandOk (h : HS) : Prop := ∃ (cs : List Int) (i g m t : Int), h = [.lst (cs.map PV.int), .int i, .int g, .int m, .int t] ∧ 0 ≤ i ∧ 0 ≤ g ∧ ∀ c ∈ cs, 0 ≤ c
def drawT : SM := (sSeq (sIf (gTB (gBin pGt (gBin pIx (gVarB 0) (gC (.int 2))) (gC (.int 0)))) (sSeq (sAsg (gBin pMod (gB pInt (gCons (gBin pIx (gVarB 0) (gC (.int 2))) gNil)) (gVarB 1)) (tgName 4))
  (sSeq (sSetH (gVar 0) (gC (.int 2)) (gBin pDiv (gBin pIx (gVarB 0) (gC (.int 2))) (gVarB 1)))
  (sRet (gVar 4)))) sNx)
  (sSeq (sSetH (gVar 0) (gC (.int 4)) (gBin pAdd (gBin pIx (gVarB 0) (gC (.int 4))) (gC (.int 1))))
  (sSeq (sAsg (gBin pMod (gB pInt (gCons (gBin pMul (gB pInt (gCons (gBin pAdd (gBin pIx (gVarB 0) (gC (.int 3))) (gBin pMul (gC (.int 7919)) (gBin pIx (gVarB 0) (gC (.int 4))))) gNil)) (gC (.int 48271))) gNil)) (gC (.int 2147483647))) (tgName 2))
  (sSeq (sAsg (gBin pMod (gB pInt (gCons (gBin pMul (gVarB 2) (gBin pAdd (gBin pDiv (gVarB 2) (gC (.int 1009))) (gC (.int 69621)))) gNil)) (gC (.int 2147483647))) (tgName 2))
  (sSeq (sAsg (gBin pMod (gB pInt (gCons (gBin pMul (gVarB 2) (gBin pAdd (gBin pDiv (gVarB 2) (gC (.int 2003))) (gC (.int 40014)))) gNil)) (gC (.int 2147483563))) (tgName 2))
  (sRet (gBin pMod (gB pInt (gCons (gBin pDiv (gVarB 2) (gC (.int 16))) gNil)) (gVarB 1))))))))
def drawH : SM := (sIf (gAndT (gTB (gBin pEq (gBin pIx (gVarB 0) (gC (.int 2))) (gC (.int 0)))) (gTB (gBin pLt (gBin pIx (gVarB 0) (gC (.int 1))) (gB pLen (gCons (gBin pIx (gVarB 0) (gC (.int 0))) gNil))))) (sSeq (sAsg (gBin pIx (gBin pIx (gVarB 0) (gC (.int 0))) (gBin pIx (gVarB 0) (gC (.int 1)))) (tgName 3))
  (sSeq (sSetH (gVar 0) (gC (.int 1)) (gBin pAdd (gBin pIx (gVarB 0) (gC (.int 1))) (gC (.int 1))))
  (sSeq (sSetH (gVar 0) (gC (.int 3)) (gBin pMod (gB pInt (gCons (gBin pAdd (gBin pAdd (gBin pMul (gBin pIx (gVarB 0) (gC (.int 3))) (gC (.int 69621))) (gBin pMul (gVarB 3) (gC (.int 40692)))) (gC (.int 17))) gNil)) (gC (.int 2147483629))))
  (sIf (gTB (gBin pGe (gVarB 3) (gBin pPow (gC (.int 10)) (gC (.int 18))))) (sSetH (gVar 0) (gC (.int 2)) (gVar 3)) sNx)))) sNx)
theorem draw_is : b__law_draw = sSeq drawH drawT := rfl
theorem draw_tail {cs : List Int} {i g m t n : Int} (hg : 0 ≤ g) (hi : 0 ≤ i) (hc : ∀ c ∈ cs, 0 ≤ c) (h0 : 0 < n) (h1 : n < 2 ^ 64) {c : Slot} :
    Ok ((drawT [.fz .hand, .fz (.int n), .un, c, .un]) >>= fin)
    (fun p h' => ∃ r : Int, p = .int r ∧ 0 ≤ r ∧ r < n ∧ HandOk h') [.lst (cs.map PV.int), .int i, .int g, .int m, .int t] := by
  have e1 := fun x : Int => v_modP (n := x) h0
  have e2 := fun x : Int => v_divP (n := x) h0 h1
  unfold drawT
  by_cases hg0 : 0 < g
  · simp [hg0, e1, e2]
    exact ⟨Int.emod_nonneg _ (by omega), Int.emod_lt_of_pos _ h0, cs, i, g / n, m, t, rfl, hi, Int.ediv_nonneg hg (by omega), hc⟩
  · simp [hg0, e1]
    exact ⟨Int.emod_nonneg _ (by omega), Int.emod_lt_of_pos _ h0, cs, i, g, m, t + 1, rfl, hi, hg, hc⟩
theorem cell_at {cs : List Int} {i : Int} (h0 : 0 ≤ i) (h1 : i < cs.length) : ∃ c, c ∈ cs ∧ atI (cs.map PV.int) i = some (.int c) := by
  refine ⟨cs[i.toNat]'(by omega), List.getElem_mem _, ?_⟩
  rw [atI_map, atI_lt h0 h1]
  rfl
theorem draw_ok {h : HS} {n : Int} (hh : HandOk h) (h0 : 0 < n) (h1 : n < 2 ^ 64) : Ok (m__law_draw [.hand, .int n]) (fun p h' => ∃ r : Int, p = .int r ∧ 0 ≤ r ∧ r < n ∧ HandOk h') h := by
  obtain ⟨cs, i, g, m, t, rfl, hi, hg, hc⟩ := hh
  rw [u__law_draw]
  rw [draw_is, e_seq, bind_assoc]
  unfold drawH
  by_cases c1 : g = 0 ∧ i < cs.length
  · obtain ⟨rfl, c2⟩ := c1
    obtain ⟨c, hcm, ec⟩ := cell_at hi c2
    have hc0 := hc c hcm
    by_cases c3 : 1000000000000000000 ≤ c
    · simp [c2, ec, c3]
      exact draw_tail (by omega) (by omega) hc h0 h1
    · simp [c2, ec, c3]
      exact draw_tail (by omega) (by omega) hc h0 h1
  · have c2 : (g == 0) = true → ¬ i < cs.length := fun e z => c1 ⟨by simpa using e, z⟩
    by_cases c3 : g = 0
    · have c4 : ¬ i < cs.length := fun z => c1 ⟨c3, z⟩
      simp [c3, c4]
      exact draw_tail (by omega) (by omega) hc h0 h1
    · simp [c3]
      exact draw_tail (by omega) (by omega) hc h0 h1
end SLP

end
section
namespace SLP
open PySem L2 SL
/-! ### the hand, a thing drawn from a row -/
theorem hand_ok {ns : List Int} : ∃ cs : List Int, (∀ c ∈ cs, 0 ≤ c) ∧ m__law_hand [.scr ns] = pure (.lst [.lst (cs.map PV.int), .int 0, .int 0, .int (83 + 5 * cs.length), .int 0]) := by
  refine ⟨(cut ns none (some 63)).map fun x => if x < 0 then -x else x, fun c hc => ?_, ?_⟩
  · obtain ⟨x, _, rfl⟩ := List.mem_map.mp hc
    show (0:Int) ≤ if x < 0 then -x else x
    split <;> omega
  · rw [u__law_hand]
    unfold b__law_hand
    simp [pSl]
    rw [lc_all (ρ' := fun x => [.fz (.scr ns), .un, .fz (.int x)]) (e := fun x => PV.int (if x < 0 then -x else x)) (by intro x _; simp)]
    simp
    rfl
theorem hand_start (cs : List Int) (m : Int) (hc : ∀ c ∈ cs, 0 ≤ c) : HandOk [.lst (cs.map PV.int), .int 0, .int 0, .int m, .int 0] := ⟨cs, 0, 0, m, 0, rfl, by omega, by omega, hc⟩
theorem some_ok {h : HS} {l : List PV} (hh : HandOk h) (h0 : 0 < l.length) (h1 : l.length < 1000) : Ok (m__law_any [.hand, .lst l]) (fun p h' => p ∈ l ∧ HandOk h') h := by
  rw [u__law_any]; unfold b__law_any
  simp
  refine (draw_ok hh (by omega) (by omega)).bind' fun p h1 ⟨r, e, r0, r2, hh1⟩ => ?_
  subst e
  rw [v_ixL, atI_lt r0 r2]
  simp [hh1]
end SLP

end
section
namespace SLP
/-! ### all fought all: kings, lines -/
structure Tm (n : Nat) (b : Nat → Nat → Bool) : Prop where
  self : ∀ i, i < n → b i i = false
  opp : ∀ i j, i < n → j < n → i ≠ j → b i j = !b j i
theorem countP_more {α : Type} {p q : α → Bool} : ∀ {l : List α}, (∀ k ∈ l, p k = true → q k = true) → (∃ c ∈ l, q c = true ∧ p c = false) → l.countP p < l.countP q
  | [], _, ⟨_, h, _⟩ => by cases h
  | x :: l, h, ⟨c, hc, h1, h2⟩ => by
    have hle : l.countP p ≤ l.countP q := List.countP_mono_left fun k hk => h k (List.mem_cons_of_mem _ hk)
    rw [List.countP_cons, List.countP_cons]
    rcases List.mem_cons.mp hc with e | hc
    · subst e
      rw [if_neg (by simp [h2]), if_pos h1]
      omega
    · have ih := countP_more (fun k hk => h k (List.mem_cons_of_mem _ hk)) ⟨c, hc, h1, h2⟩
      have hx := h x List.mem_cons_self
      by_cases a : p x = true
      · rw [if_pos a, if_pos (hx a)]; omega
      · rw [if_neg a]; split <;> omega
def deg (b : Nat → Nat → Bool) (S : List Nat) (x : Nat) : Nat := S.countP (b x)
theorem king_max {n : Nat} {b : Nat → Nat → Bool} (T : Tm n b) {S : List Nat} (hS : ∀ x ∈ S, x < n) {c d : Nat} (hc : c ∈ S) (hm : ∀ x ∈ S, deg b S x ≤ deg b S c) (hd : d ∈ S) (ne : d ≠ c) : b c d = true ∨ ∃ k ∈ S, b c k = true ∧ b k d = true := by
  by_cases h1 : b c d = true
  · exact .inl h1
  · refine .inr (Classical.byContradiction fun hn => ?_)
    have h1 : b c d = false := by simpa using h1
    have key : deg b S c < deg b S d := by
      refine countP_more (fun k hk hk2 => ?_) ⟨c, hc, ?_, T.self c (hS c hc)⟩
      · have kd : k ≠ d := fun z => by rw [z, h1] at hk2; cases hk2
        have : ¬ b k d = true := fun z => hn ⟨k, hk, hk2, z⟩
        rw [T.opp d k (hS d hd) (hS k hk) (Ne.symm kd)]
        simpa using this
      · rw [T.opp d c (hS d hd) (hS c hc) ne, h1]; rfl
    have := hm d hd
    omega
theorem max_of {f : Nat → Nat} : ∀ {S : List Nat}, S ≠ [] → ∃ c ∈ S, ∀ x ∈ S, f x ≤ f c
  | [], h => absurd rfl h
  | [a], _ => ⟨a, List.mem_cons_self, fun x hx => by rw [List.mem_singleton.mp hx]; exact Nat.le_refl _⟩
  | a :: a2 :: S, _ => by
    obtain ⟨c, hc, hm⟩ := max_of (f := f) (S := a2 :: S) (by simp)
    by_cases h : f c ≤ f a
    · exact ⟨a, List.mem_cons_self, fun x hx => (List.mem_cons.mp hx).elim (fun e => by rw [e]; exact Nat.le_refl _) fun hx => Nat.le_trans (hm x hx) h⟩
    · exact ⟨c, List.mem_cons_of_mem _ hc, fun x hx => (List.mem_cons.mp hx).elim (fun e => by rw [e]; omega) fun hx => hm x hx⟩
def King (n : Nat) (b : Nat → Nat → Bool) (i : Nat) : Prop := ∀ j, j < n → j ≠ i → b i j = true ∨ ∃ k, k < n ∧ b i k = true ∧ b k j = true
theorem most_king {n : Nat} {b : Nat → Nat → Bool} (T : Tm n b) {c : Nat} (hc : c < n) (hm : ∀ x, x < n → deg b (List.range n) x ≤ deg b (List.range n) c) : King n b c := fun j hj ne => by
  rcases king_max T (S := List.range n) (fun x hx => List.mem_range.mp hx) (List.mem_range.mpr hc) (fun x hx => hm x (List.mem_range.mp hx)) (List.mem_range.mpr hj) ne with h | ⟨k, hk, h⟩
  · exact .inl h
  · exact .inr ⟨k, List.mem_range.mp hk, h⟩
/-- who is beaten has a king among those who beat it -/
theorem king_over {n : Nat} {b : Nat → Nat → Bool} (T : Tm n b) {a : Nat} (ha : a < n) (h : ∃ k, k < n ∧ b k a = true) : ∃ c, c < n ∧ b c a = true ∧ King n b c := by
  obtain ⟨k, hk, hka⟩ := h
  have mem : ∀ x, x ∈ (List.range n).filter (fun x => b x a) ↔ x < n ∧ b x a = true := fun x => by rw [List.mem_filter, List.mem_range]
  obtain ⟨c, hc, hm⟩ := max_of (f := deg b ((List.range n).filter fun x => b x a)) (S := (List.range n).filter fun x => b x a) (List.ne_nil_of_mem ((mem k).mpr ⟨hk, hka⟩))
  obtain ⟨c1, c2⟩ := (mem c).mp hc
  refine ⟨c, c1, c2, fun j hj ne => ?_⟩
  by_cases e : j = a
  · rw [e]; exact .inl c2
  · by_cases h2 : b j a = true
    · rcases king_max T (S := (List.range n).filter fun x => b x a) (fun x hx => ((mem x).mp hx).1) hc hm ((mem j).mpr ⟨hj, h2⟩) ne with h | ⟨k, hk, h⟩
      · exact .inl h
      · exact .inr ⟨k, ((mem k).mp hk).1, h⟩
    · refine .inr ⟨a, ha, c2, ?_⟩
      rw [T.opp a j ha hj (Ne.symm e)]
      simpa using h2
theorem not_two {n : Nat} {b : Nat → Nat → Bool} (T : Tm n b) {x y : Nat} (hx : x < n) (hy : y < n) (ne : x ≠ y) (kx : King n b x) (ky : King n b y) : ∃ c, c < n ∧ c ≠ x ∧ c ≠ y ∧ King n b c := by
  have key : ∀ a d, a < n → d < n → a ≠ d → b a d = true → King n b d → ∃ c, c < n ∧ c ≠ a ∧ c ≠ d ∧ King n b c := by
    intro a d ha hd nd had kd
    have hda : b d a = false := by rw [T.opp d a hd ha (Ne.symm nd), had]; rfl
    have hk : ∃ k, k < n ∧ b k a = true := by
      rcases kd a ha nd with h | ⟨k, hk, _, h⟩
      · rw [hda] at h; cases h
      · exact ⟨k, hk, h⟩
    obtain ⟨c, c1, c2, c3⟩ := king_over T ha hk
    refine ⟨c, c1, fun z => ?_, fun z => ?_, c3⟩
    · rw [z, T.self a ha] at c2; cases c2
    · rw [z, hda] at c2; cases c2
  by_cases h : b x y = true
  · exact key x y hx hy ne h ky
  · have h' : b y x = true := by
      rw [T.opp y x hy hx (Ne.symm ne)]
      simpa using h
    obtain ⟨c, c1, c2, c3, c4⟩ := key y x hy hx (Ne.symm ne) h' kx
    exact ⟨c, c1, c3, c2, c4⟩
theorem some_king {n : Nat} {b : Nat → Nat → Bool} (T : Tm n b) (hn : 0 < n) : ∃ c, c < n ∧ King n b c := by
  obtain ⟨c, hc, hm⟩ := max_of (f := deg b (List.range n)) (S := List.range n) (by intro z; have := congrArg List.length z; simp at this; omega)
  exact ⟨c, List.mem_range.mp hc, most_king T (List.mem_range.mp hc) fun x hx => hm x (List.mem_range.mpr hx)⟩
/-! lines -/
def kids (n : Nat) (b : Nat → Nat → Bool) (row : List Nat) : List (List Nat) := ((List.range n).filter fun x => decide (x ∉ row) && match row.getLast? with | none => true | some l => b l x).map fun x => row ++ [x]
def below (n : Nat) (b : Nat → Nat → Bool) : Nat → List Nat → List (List Nat)
  | 0, row => [row]
  | k + 1, row => (kids n b row).flatMap (below n b k)
def Line (b : Nat → Nat → Bool) (p : List Nat) : Prop := p.Pairwise (· ≠ ·) ∧ ∀ (i : Nat) x y, p[i]? = some x → p[i + 1]? = some y → b x y = true
def Chain (b : Nat → Nat → Bool) : List Nat → Prop
  | [] => True
  | [_] => True
  | x :: y :: l => b x y = true ∧ Chain b (y :: l)
theorem chain_cons {b : Nat → Nat → Bool} {a : Nat} {q : List Nat} (h : Chain b q) (ha : ∀ x, q.head? = some x → b a x = true) : Chain b (a :: q) := by
  cases q with
  | nil => trivial
  | cons x q => exact ⟨ha x rfl, h⟩
theorem put_in {n : Nat} {b : Nat → Nat → Bool} (T : Tm n b) {x : Nat} (hx : x < n) : ∀ (p : List Nat), Chain b p → (∀ y ∈ p, y < n) → x ∉ p → ∃ q, Chain b q ∧ q.Perm (x :: p) ∧ (q.head? = p.head? ∨ q.head? = some x)
  | [], _, _, _ => ⟨[x], trivial, .refl _, .inr rfl⟩
  | a :: p, hp, hb, hn => by
    have ha : a < n := hb a List.mem_cons_self
    have ne : x ≠ a := fun z => hn (z ▸ List.mem_cons_self)
    by_cases h : b x a = true
    · exact ⟨x :: a :: p, ⟨h, hp⟩, .refl _, .inr rfl⟩
    · have hp' : Chain b p := by
        cases p with
        | nil => trivial
        | cons y p => exact hp.2
      obtain ⟨q, h1, h2, h3⟩ := put_in T hx p hp' (fun y hy => hb y (List.mem_cons_of_mem _ hy)) fun z => hn (List.mem_cons_of_mem _ z)
      refine ⟨a :: q, chain_cons h1 fun y hy => ?_, (h2.cons a).trans (.swap _ _ _), .inl rfl⟩
      rcases h3 with h3 | h3
      · rw [h3] at hy
        cases p with
        | nil => cases hy
        | cons z p => cases hy; exact hp.1
      · rw [h3] at hy
        cases hy
        rw [T.opp a x ha hx (Ne.symm ne)]
        simpa using h
theorem redei {n : Nat} {b : Nat → Nat → Bool} (T : Tm n b) : ∀ S : List Nat, S.Nodup → (∀ y ∈ S, y < n) → ∃ q, Chain b q ∧ q.Perm S
  | [], _, _ => ⟨[], trivial, .refl _⟩
  | x :: S, hn, hb => by
    obtain ⟨h1, h2⟩ := List.nodup_cons.mp hn
    obtain ⟨p, c, e⟩ := redei T S h2 fun y hy => hb y (List.mem_cons_of_mem _ hy)
    obtain ⟨q, c2, e2, _⟩ := put_in T (hb x List.mem_cons_self) p c (fun y hy => hb y (List.mem_cons_of_mem _ (e.mem_iff.mp hy))) fun z => h1 (e.mem_iff.mp z)
    exact ⟨q, c2, e2.trans (e.cons x)⟩
theorem chain_below {n : Nat} {b : Nat → Nat → Bool} : ∀ (q row : List Nat), Chain b (row ++ q) → (row ++ q).Nodup → (∀ y ∈ q, y < n) → row ++ q ∈ below n b q.length row
  | [], row, _, _, _ => by rw [List.append_nil]; exact List.mem_singleton.mpr rfl
  | x :: q, row, hc, hn, hb => by
    have e : row ++ x :: q = (row ++ [x]) ++ q := by simp
    have ih := chain_below q (row ++ [x]) (e ▸ hc) (e ▸ hn) fun y hy => hb y (List.mem_cons_of_mem _ hy)
    rw [e]
    refine List.mem_flatMap.mpr ⟨row ++ [x], List.mem_map.mpr ⟨x, List.mem_filter.mpr ⟨List.mem_range.mpr (hb x List.mem_cons_self), ?_⟩, rfl⟩, ih⟩
    have h1 : x ∉ row := fun z => by
      have := (List.nodup_append.mp hn).2.2 x z x List.mem_cons_self
      exact this rfl
    rw [decide_eq_true h1, Bool.true_and]
    cases hl : row.getLast? with
    | none => rfl
    | some l =>
      obtain ⟨r, er⟩ : ∃ r, row = r ++ [l] := by
        have hne : row ≠ [] := fun z => by rw [z] at hl; cases hl
        refine ⟨row.dropLast, ?_⟩
        rw [List.getLast?_eq_some_getLast hne] at hl
        rw [← Option.some.inj hl, List.dropLast_concat_getLast hne]
      rw [er] at hc
      have key : ∀ r : List Nat, Chain b (r ++ [l] ++ x :: q) → b l x = true := by
        intro r
        induction r with
        | nil => exact fun h => h.1
        | cons a r ih =>
          intro h
          refine ih ?_
          cases r with
          | nil => exact h.2
          | cons a2 r => exact h.2
      exact key r hc
theorem line_some {n : Nat} {b : Nat → Nat → Bool} (T : Tm n b) : below n b n [] ≠ [] := by
  obtain ⟨q, c, e⟩ := redei T (List.range n) List.nodup_range fun y hy => List.mem_range.mp hy
  have hl : q.length = n := by rw [e.length_eq, List.length_range]
  have := chain_below (n := n) q [] (by simpa using c) (by simpa using e.nodup_iff.mpr List.nodup_range) fun y hy => List.mem_range.mp (e.mem_iff.mp hy)
  rw [hl] at this
  exact List.ne_nil_of_mem this
end SLP

end
section
namespace SLP
open PySem L2 SL
/-! ### tables -/
def rowP (r : List Bool) : PV := .ptp (r.map PV.bl)
def tabP (T : List (List Bool)) : PV := .tup (T.map rowP)
def bt (T : List (List Bool)) (i j : Nat) : Bool := (T.getD i []).getD j false
structure TabOk (T : List (List Bool)) : Prop where
  pos : 0 < T.length
  le : T.length ≤ 7
  row : ∀ r ∈ T, r.length = T.length
  tm : Tm T.length (bt T)
theorem getD_lt {α : Type} {l : List α} {i : Nat} {d : α} (h : i < l.length) : l.getD i d = l[i] := by
  rw [List.getD_eq_getElem?_getD, List.getElem?_eq_getElem h]; rfl
theorem at_mput {N i j : Nat} {v : Bool} {T : List (List Bool)} (hl : T.length = N) (hr : ∀ r ∈ T, r.length = N) (hi : i < N) (hj : j < N) (a b : Nat) : bt (mput T i j v) a b = if a = i ∧ b = j then v else bt T a b := by
  unfold bt mput
  by_cases ha : a = i
  · subst ha
    have h1 : (T.set a ((T.getD a []).set j v)).getD a [] = (T.getD a []).set j v := by
      rw [List.getD_eq_getElem?_getD, List.getElem?_set_self (by omega)]; rfl
    rw [h1]
    have hl2 : (T.getD a []).length = N := by rw [getD_lt (by omega)]; exact hr _ (List.getElem_mem _)
    by_cases hb : b = j
    · subst hb
      rw [if_pos ⟨rfl, rfl⟩, List.getD_eq_getElem?_getD, List.getElem?_set_self (by omega)]; rfl
    · rw [if_neg fun z => hb z.2, List.getD_eq_getElem?_getD, List.getElem?_set_ne (Ne.symm hb), ← List.getD_eq_getElem?_getD]
  · have h1 : (T.set i ((T.getD i []).set j v)).getD a [] = T.getD a [] := by
      rw [List.getD_eq_getElem?_getD, List.getElem?_set_ne (Ne.symm ha), ← List.getD_eq_getElem?_getD]
    rw [if_neg fun z => ha z.1, h1]
theorem mput_len {i j : Nat} {v : Bool} {T : List (List Bool)} : (mput T i j v).length = T.length := by unfold mput; rw [List.length_set]
theorem mput_row {N i j : Nat} {v : Bool} {T : List (List Bool)} (hl : T.length = N) (hr : ∀ r ∈ T, r.length = N) (hi : i < N) : ∀ r ∈ mput T i j v, r.length = N := fun r h => by
  unfold mput at h
  rcases List.mem_or_eq_of_mem_set h with h | h
  · exact hr r h
  · rw [h, List.length_set, getD_lt (by omega)]; exact hr _ (List.getElem_mem _)
/-- what is filled: all pairs below k, of row i those below j -/
structure Fill (N k j : Nat) (T : List (List Bool)) : Prop where
  len : T.length = N
  row : ∀ r ∈ T, r.length = N
  diag : ∀ a, a < N → bt T a a = false
  done : ∀ a b, a < k → b < k → a ≠ b → bt T a b = !bt T b a
  part : ∀ b, b < j → bt T k b = !bt T b k
theorem fill_step {N k j : Nat} {v : Bool} {T : List (List Bool)} (f : Fill N k j T) (hk : k < N) (hj : j < k) : Fill N k (j + 1) (mput (mput T k j v) j k (!v)) := by
  have r1 := mput_row (i := k) (j := j) (v := v) f.len f.row hk
  have l1 : (mput T k j v).length = N := mput_len.trans f.len
  have hjN : j < N := by omega
  have e : ∀ a b, bt (mput (mput T k j v) j k (!v)) a b = if a = j ∧ b = k then !v else if a = k ∧ b = j then v else bt T a b := fun a b => by
    rw [at_mput l1 r1 hjN hk, at_mput f.len f.row hk hjN]
  refine ⟨mput_len.trans l1, mput_row l1 r1 hjN, fun a ha => ?_, fun a b ha hb ne => ?_, fun b hb => ?_⟩
  · rw [e, if_neg (by omega), if_neg (by omega)]; exact f.diag a ha
  · rw [e, e, if_neg (by omega), if_neg (by omega), if_neg (by omega), if_neg (by omega)]; exact f.done a b ha hb ne
  · by_cases h : b = j
    · subst h
      rw [e, e, if_neg (by omega), if_pos ⟨rfl, rfl⟩, if_pos ⟨rfl, rfl⟩, Bool.not_not]
    · rw [e, e, if_neg (by omega), if_neg (by omega), if_neg (by omega), if_neg (by omega)]; exact f.part b (by omega)
theorem fill_next {N k : Nat} {T : List (List Bool)} (f : Fill N k k T) : Fill N (k + 1) 0 T := by
  refine ⟨f.len, f.row, f.diag, fun a b ha hb ne => ?_, fun b hb => absurd hb (Nat.not_lt_zero _)⟩
  by_cases h1 : a = k
  · subst h1; exact f.part b (by omega)
  · by_cases h2 : b = k
    · subst h2; rw [f.part a (by omega), Bool.not_not]
    · exact f.done a b (by omega) (by omega) ne
theorem fill_zero (N : Nat) : Fill N 0 0 (List.replicate N (List.replicate N false)) := by
  refine ⟨List.length_replicate, fun r h => by rw [(List.mem_replicate.mp h).2, List.length_replicate], fun a ha => ?_, fun a b ha => absurd ha (Nat.not_lt_zero _), fun b hb => absurd hb (Nat.not_lt_zero _)⟩
  unfold bt
  have h1 : (List.replicate N (List.replicate N false)).getD a [] = List.replicate N false := by
    rw [getD_lt (by rw [List.length_replicate]; exact ha), List.getElem_replicate]
  rw [h1, getD_lt (by rw [List.length_replicate]; exact ha), List.getElem_replicate]
theorem row_ok {fl : M Bool} (hfl : ∀ h, HandOk h → Ok fl (fun _ h' => HandOk h') h) {N k : Nat} (hk : k < N) : ∀ (js : List Nat) (j : Nat) (T : List (List Bool)) (h : HS), js = (List.range k).drop j → j ≤ k → Fill N k j T → HandOk h → Ok (mxRow fl k js T) (fun T' h' => Fill N k k T' ∧ HandOk h') h
  | [], j, T, h, e, hj, f, hh => by
    have : j = k := by
      have := congrArg List.length e
      simp at this; omega
    subst this
    exact Ok.pure ⟨f, hh⟩
  | x :: js, j, T, h, e, hj, f, hh => by
    have hlt : j < k := by
      have := congrArg List.length e
      simp at this; omega
    have ed : (List.range k).drop j = j :: (List.range k).drop (j + 1) := by
      rw [List.drop_eq_getElem_cons (by rw [List.length_range]; exact hlt), List.getElem_range]
    rw [ed] at e
    obtain ⟨e1, e2⟩ := List.cons.inj e
    subst e1
    show Ok (fl >>= fun b => mxRow fl k js (mput (mput T k x b) x k (!b))) _ h
    exact (hfl h hh).bind' fun b h1 hh1 => row_ok hfl hk js (x + 1) _ h1 e2 (by omega) (fill_step f hk hlt) hh1
theorem all_ok {fl : M Bool} (hfl : ∀ h, HandOk h → Ok fl (fun _ h' => HandOk h') h) {N : Nat} : ∀ (is : List Nat) (k : Nat) (T : List (List Bool)) (h : HS), is = (List.range N).drop k → k ≤ N → Fill N k 0 T → HandOk h → Ok (mxAll fl is T) (fun T' h' => Fill N N 0 T' ∧ HandOk h') h
  | [], k, T, h, e, hk, f, hh => by
    have : k = N := by
      have := congrArg List.length e
      simp at this; omega
    subst this
    exact Ok.pure ⟨f, hh⟩
  | x :: is, k, T, h, e, hk, f, hh => by
    have hlt : k < N := by
      have := congrArg List.length e
      simp at this; omega
    have ed : (List.range N).drop k = k :: (List.range N).drop (k + 1) := by
      rw [List.drop_eq_getElem_cons (by rw [List.length_range]; exact hlt), List.getElem_range]
    rw [ed] at e
    obtain ⟨e1, e2⟩ := List.cons.inj e
    subst e1
    show Ok (mxRow fl x (List.range x) T >>= fun r => mxAll fl is r) _ h
    exact (row_ok hfl hlt (List.range x) 0 T h (by simp) (Nat.zero_le _) f hh).bind' fun T' h1 ⟨f1, hh1⟩ => all_ok hfl is (x + 1) T' h1 e2 (by omega) (fill_next f1) hh1
end SLP

end
section
namespace SLP
open PySem L2 SL
/-! ### the table read: right, kings -/
theorem sized_ptp {l : List PV} {n : Int} : m_is_sized [.ptp l, .int n, .int n] = pure (.bl (decide (n ≤ l.length) && decide ((l.length : Int) ≤ n))) := by
  rw [u_is_sized]; unfold b_is_sized
  simp
  by_cases h : n ≤ l.length <;> simp [h]
theorem sized_tup {l : List PV} {lo hi : Int} : m_is_sized [.tup l, .int lo, .int hi] = pure (.bl (decide (lo ≤ l.length) && decide ((l.length : Int) ≤ hi))) := by
  rw [u_is_sized]; unfold b_is_sized
  simp
  by_cases h : lo ≤ l.length <;> simp [h]
def rowOf (T : List (List Bool)) (i : Nat) : List Bool := T.getD i []
theorem ix_tab {T : List (List Bool)} {i : Nat} (hi : i < T.length) : pIx (tabP T) (.int i) = pure (rowP (rowOf T i)) := by
  unfold tabP
  rw [v_ixT]
  have : atI (T.map rowP) (i : Int) = some (rowP (rowOf T i)) := atI_nat (by rw [List.getElem?_map, List.getElem?_eq_getElem hi]; unfold rowOf; rw [getD_lt hi]; rfl)
  rw [this]; rfl
theorem ix_row {r : List Bool} {j : Nat} (hj : j < r.length) : pIx (rowP r) (.int j) = pure (.bl (r.getD j false)) := by
  unfold rowP
  rw [v_ixP]
  have : atI (r.map PV.bl) (j : Int) = some (.bl (r.getD j false)) := atI_nat (by rw [List.getElem?_map, List.getElem?_eq_getElem hj, getD_lt hj]; rfl)
  rw [this]; rfl
theorem row_len {T : List (List Bool)} (h : TabOk T) {i : Nat} (hi : i < T.length) : (rowOf T i).length = T.length := by
  unfold rowOf
  rw [getD_lt hi]; exact h.row _ (List.getElem_mem _)
theorem ix2 {T : List (List Bool)} (h : TabOk T) {i j : Nat} (hi : i < T.length) (hj : j < T.length) : pIx (rowP (rowOf T i)) (.int j) = pure (.bl (bt T i j)) := ix_row (by rw [row_len h hi]; exact hj)
theorem len_tab {T : List (List Bool)} : pLen [tabP T] = pure (.int T.length) := by unfold tabP; simp
abbrev rN (n : Nat) : List PV := (List.range n).map fun (k : Nat) => PV.int k
theorem rng_N (n : Nat) : rng 0 n = rN n := by rw [rng0]
def kingB (T : List (List Bool)) (i : Nat) : Bool := (List.range T.length).all fun j => decide (j = i) || bt T i j || (List.range T.length).any fun k => bt T i k && bt T k j
theorem king_iff {T : List (List Bool)} {i : Nat} : kingB T i = true ↔ King T.length (bt T) i := by
  unfold kingB King
  rw [List.all_eq_true]
  constructor
  · intro h j hj ne
    have := h j (List.mem_range.mpr hj)
    simp only [Bool.or_eq_true, decide_eq_true_eq, List.any_eq_true, Bool.and_eq_true, List.mem_range] at this
    rcases this with (e | e) | ⟨k, hk, e1, e2⟩
    · exact absurd e ne
    · exact .inl e
    · exact .inr ⟨k, hk, e1, e2⟩
  · intro h j hj
    have hj := List.mem_range.mp hj
    simp only [Bool.or_eq_true, decide_eq_true_eq, List.any_eq_true, Bool.and_eq_true, List.mem_range]
    by_cases e : j = i
    · exact .inl (.inl e)
    · rcases h j hj e with e | ⟨k, hk, e1, e2⟩
      · exact .inl (.inr e)
      · exact .inr ⟨k, hk, e1, e2⟩
theorem is_king_is {T : List (List Bool)} (h : TabOk T) {i : Nat} (hi : i < T.length) : m_is_king [tabP T, .int i] = pure (.bl (kingB T i)) := by
  have hle := h.le
  rw [u_is_king]; unfold b_is_king
  simp [len_tab]
  rw [guard_pos (by omega), pure_bind, rng_N]
  obtain ⟨s', e⟩ := find_loop (f := fun s => [.fz (tabP T), .fz (.int i), .fz (.int T.length), s, .un]) (i := 3) (fun _ _ => rfl) (t := (gAndT (gTB (gBin pNe (gVarB 3) (gVarB 1))) (gAndT (gNotT (gTru (gBin pIx (gBin pIx (gVarB 0) (gVarB 1)) (gVarB 3)))) (gNotT (gTru (gB pAny (gCons (gLc (iRange (gCons (gVar 2) gNil)) (tgName 4) gYes (gAnd (gBin pIx (gBin pIx (gVarB 0) (gVarB 1)) (gVarB 4)) (gBin pIx (gBin pIx (gVarB 0) (gVarB 4)) (gVarB 3))) [4]) gNil))))))) (g := gC (.bl false)) (c := fun j : Nat => !(decide (j = i) || bt T i j || (List.range T.length).any fun k => bt T i k && bt T k j)) (φ := fun j : Nat => PV.int j) (e := fun _ => .bl false) (l := List.range T.length) (fun j hj => by
    have hj := List.mem_range.mp hj
    refine ⟨?_, fun _ => rfl⟩
    simp [ix_tab hi, ix2 h hi hj]
    by_cases e : j = i
    · subst e; simp
    · have e' : ¬ (j : Int) = (i : Int) := by omega
      simp [e, e']
      cases hb : bt T i j
      · simp
        rw [guard_pos (by omega), pure_bind, rng_N]
        rw [lc_all (ρ' := fun k : Nat => [.fz (tabP T), .fz (.int i), .fz (.int T.length), .fz (.int j), .fz (.int k)]) (e := fun k => PV.bl (bt T i k && bt T k j)) (l := List.range T.length) (φ := fun k : Nat => PV.int k) (fun k hk => by
          have hk := List.mem_range.mp hk
          refine ⟨rfl, ?_⟩
          simp [ix_tab hi, ix_tab hk, ix2 h hi hk, ix2 h hk hj]
          cases bt T i k <;> simp)]
        rw [pure_bind, v_any]
        simp
      · simp) .un
  rw [e]
  unfold kingB
  cases q : (List.range T.length).find? (fun j : Nat => !(decide (j = i) || bt T i j || (List.range T.length).any fun k => bt T i k && bt T k j)) with
  | none =>
    have : (List.range T.length).all (fun j => decide (j = i) || bt T i j || (List.range T.length).any fun k => bt T i k && bt T k j) = true := by
      rw [List.find?_eq_none] at q
      rw [List.all_eq_true]
      intro j hj
      have := q j hj
      revert this
      cases (decide (j = i) || bt T i j || (List.range T.length).any fun k => bt T i k && bt T k j) <;> simp
    rw [this]
    simp
  | some j =>
    have h1 := List.find?_some q
    have h2 := List.mem_of_find?_eq_some q
    have : (List.range T.length).all (fun j => decide (j = i) || bt T i j || (List.range T.length).any fun k => bt T i k && bt T k j) = false := by
      rw [Bool.eq_false_iff]
      intro z
      have := List.all_eq_true.mp z j h2
      rw [this] at h1
      cases h1
    rw [this]
    simp
theorem mem_N {l : List Nat} {j : Nat} : decide ((j : Int) ∈ l.map fun k : Nat => (k : Int)) = decide (j ∈ l) := by
  rw [Bool.eq_iff_iff]
  simp
  exact ⟨fun ⟨a, h, e⟩ => by
    have : a = j := by omega
    exact this ▸ h, fun h => ⟨j, h, rfl⟩⟩
theorem nin_NL {l : List Nat} {j : Nat} : pNotIn (.int j) (.lst (l.map fun k : Nat => PV.int k)) = pure (.bl (!decide (j ∈ l))) := by
  have := v_ninIL (A := l.map fun k : Nat => (k : Int)) (a := (j : Int))
  rw [List.map_map, mem_N] at this
  exact this
theorem nin_NT {l : List Nat} {j : Nat} : pNotIn (.int j) (.tup (l.map fun k : Nat => PV.int k)) = pure (.bl (!decide (j ∈ l))) := by
  have := v_ninI (A := l.map fun k : Nat => (k : Int)) (a := (j : Int))
  rw [List.map_map, mem_N] at this
  exact this
theorem in_NT {l : List Nat} {j : Nat} : pIn (.int j) (.tup (l.map fun k : Nat => PV.int k)) = pure (.bl (decide (j ∈ l))) := by
  have := v_inI (A := l.map fun k : Nat => (k : Int)) (a := (j : Int))
  rw [List.map_map, mem_N] at this
  exact this
/-- the law's own -/
theorem enum_row {T : List (List Bool)} (h : TabOk T) {i : Nat} (hi : i < T.length) : ((rng 0 ((rowOf T i).map PV.bl).length).zip ((rowOf T i).map PV.bl)).map (fun t => PV.tup [t.1, t.2]) = (List.range T.length).map fun k : Nat => .tup [.int k, .bl (bt T i k)] := by
  have hl := row_len h hi
  rw [List.length_map, hl]
  apply List.ext_getElem
  · simp [rng, hl]
  · intro k h1 h2
    have hk : k < T.length := by simpa using h2
    simp [rng]
    unfold bt
    show (rowOf T i)[k] = (rowOf T i).getD k false
    rw [getD_lt (by omega)]
theorem law_king_is {T : List (List Bool)} (h : TabOk T) {i : Nat} (hi : i < T.length) : m__law_is_king [tabP T, .int i] = pure (.bl (kingB T i)) := by
  have hle := h.le
  rw [u__law_is_king]; unfold b__law_is_king
  simp [ix_tab hi]
  unfold rowP
  simp only [pure_bind]
  rw [enum_row h hi]
  rw [lc_map (c := fun k : Nat => bt T i k) (ρ' := fun k : Nat => [.fz (tabP T), .fz (.int i), .un, .un, .fz (.int k), .fz (.bl (bt T i k)), .un]) (e := fun k : Nat => PV.int k) (l := List.range T.length) (fun k hk => by
    refine ⟨rfl, ?_, fun _ => rfl⟩
    simp)]
  simp [len_tab]
  rw [guard_pos (by omega), pure_bind, rng_N]
  obtain ⟨Bt, hB⟩ : ∃ Bt, Bt = (List.range T.length).filter fun k => bt T i k := ⟨_, rfl⟩
  rw [← hB]
  rw [lc_map (c := fun j : Nat => !decide (j = i) && !decide (j ∈ Bt)) (ρ' := fun j : Nat => [.fz (tabP T), .fz (.int i), .fz (.lst (Bt.map fun k : Nat => PV.int k)), .un, .fz (.int j), .un, .un]) (e := fun k : Nat => PV.int k) (l := List.range T.length) (fun j hj => by
    refine ⟨rfl, ?_, fun _ => rfl⟩
    simp [nin_NL]
    by_cases e : j = i
    · subst e; simp
    · have e' : ¬ (j : Int) = (i : Int) := by omega
      simp [e, e'])]
  rw [pure_bind]
  have key : ∀ (l : List Nat), (∀ j ∈ l, j < T.length) → (lcF (tgName 4) gYes (gB pAny (SL.gCons (gLc (iSeq (gVar 2)) (tgName 6) gYes (gBin pIx (gBin pIx (gVarB 0) (gVarB 6)) (gVarB 4)) [6]) SL.gNil)) [.fz (tabP T), .fz (.int i), .fz (.lst (Bt.map fun k : Nat => PV.int k)), .fz (.lst (l.map fun k : Nat => PV.int k)), .un, .un, .un] (l.map fun k : Nat => PV.int k) >>= fun a => pAll [.lst a]) = pure (.bl (l.all fun j => Bt.any fun k => bt T k j)) := by
    intro l hl
    rw [lc_all (ρ' := fun j : Nat => [.fz (tabP T), .fz (.int i), .fz (.lst (Bt.map fun k : Nat => PV.int k)), .fz (.lst (l.map fun k : Nat => PV.int k)), .fz (.int j), .un, .un]) (e := fun j : Nat => PV.bl (Bt.any fun k => bt T k j)) (l := l) (φ := fun k : Nat => PV.int k) (fun j hj => by
      refine ⟨rfl, ?_⟩
      simp
      rw [lc_all (ρ' := fun k : Nat => [.fz (tabP T), .fz (.int i), .fz (.lst (Bt.map fun k : Nat => PV.int k)), .fz (.lst (l.map fun k : Nat => PV.int k)), .fz (.int j), .un, .fz (.int k)]) (e := fun k : Nat => PV.bl (bt T k j)) (l := Bt) (φ := fun k : Nat => PV.int k) (fun k hk => by
        have hk : k < T.length := by rw [hB] at hk; exact List.mem_range.mp (List.mem_filter.mp hk).1
        refine ⟨rfl, ?_⟩
        simp [ix_tab hk, ix2 h hk (hl j hj)])]
      rw [pure_bind, v_any])]
    rw [pure_bind, v_all]
  rw [key _ fun j hj => List.mem_range.mp (List.mem_filter.mp hj).1]
  congr 2
  unfold kingB
  rw [Bool.eq_iff_iff, List.all_eq_true, List.all_eq_true]
  constructor
  · intro q j hj
    simp only [Bool.or_eq_true, decide_eq_true_eq, List.any_eq_true, Bool.and_eq_true]
    by_cases e : j = i
    · exact .inl (.inl e)
    · by_cases e2 : bt T i j = true
      · exact .inl (.inr e2)
      · have hm : j ∈ (List.range T.length).filter fun j => !decide (j = i) && !decide (j ∈ Bt) := by
          refine List.mem_filter.mpr ⟨hj, ?_⟩
          rw [hB]
          simp [e, e2]
        have := List.any_eq_true.mp (q j hm)
        obtain ⟨k, hk, e3⟩ := this
        rw [hB] at hk
        obtain ⟨k1, k2⟩ := List.mem_filter.mp hk
        exact .inr ⟨k, k1, k2, e3⟩
  · intro q j hj
    obtain ⟨j1, j2⟩ := List.mem_filter.mp hj
    have := q j j1
    simp only [Bool.or_eq_true, decide_eq_true_eq, List.any_eq_true, Bool.and_eq_true] at this
    rw [hB] at j2
    simp at j2
    rw [List.any_eq_true]
    rcases this with (e | e) | ⟨k, k1, k2, k3⟩
    · exact absurd e j2.1
    · rcases j2.2 with z | z
      · have := List.mem_range.mp j1; omega
      · rw [e] at z; cases z
    · exact ⟨k, by rw [hB]; exact List.mem_filter.mpr ⟨k1, k2⟩, k3⟩
/-! right -/
theorem skip_loop {α : Type} {f : Slot → Ev} {i : Nat} (hf : ∀ s p, (f s).set i (.fz p) = f (.fz p)) {gb : SM} {φ : α → PV} {l : List α} (h : ∀ x ∈ l, gb (f (.fz (φ x))) = pure (.nx (f (.fz (φ x))))) (s : Slot) : ∃ s', forF (tgName i) gb (l.map φ) (f s) = pure (.nx (f s')) := by
  obtain ⟨s', e⟩ := fold_loop (β := Unit) (st := fun _ s => f s) (gt := tgName i) (gb := gb) (g := fun _ _ => ()) (φ := φ) (l := l) (a := ()) (fun pre x suf e s => by
    refine ⟨.fz (φ x), ?_⟩
    rw [e_tname, pure_bind, hf]
    exact h x (by rw [e]; simp)) s
  exact ⟨s', e⟩
theorem check_m {T : List (List Bool)} (h : TabOk T) : m_check_table [tabP T] = pure .non := by
  have hle := h.le
  have hpos := h.pos
  have z1 : m_is_sized [tabP T, .int 1, .int 7] = pure (.bl true) := by
    unfold tabP
    rw [sized_tup, List.length_map, decide_eq_true (by omega : (1 : Int) ≤ T.length), decide_eq_true (by omega : (T.length : Int) ≤ 7)]; rfl
  rw [u_check_table]; unfold b_check_table
  simp [z1, len_tab]
  obtain ⟨s', e⟩ := skip_loop (α := List Bool) (f := fun s => [.fz (tabP T), .fz (.int T.length), s, .un, .un, .un]) (i := 2) (fun _ _ => rfl) (gb := (sIf (gOrT (gNotT (gTru (gB m_is_sized (SL.gCons (gVar 2) (SL.gCons (gVar 1) (SL.gCons (gVar 1) SL.gNil)))))) (gNotT (gTru (gB pAll (SL.gCons (gLc (iSeq (gVar 2)) (tgName 5) gYes (gIsi [.bool] (gVarB 5)) [5]) SL.gNil))))) sNever sNx)) (φ := rowP) (l := T) (fun r hr => by
    have hl := h.row r hr
    have z2 : m_is_sized [rowP r, .int T.length, .int T.length] = pure (.bl true) := by
      unfold rowP
      rw [sized_ptp, List.length_map, hl, decide_eq_true (Int.le_refl _)]; rfl
    simp [z2]
    unfold rowP
    simp only [pure_bind]
    rw [lc_all (ρ' := fun b : Bool => [.fz (tabP T), .fz (.int T.length), .fz (.ptp (r.map PV.bl)), .un, .un, .fz (.bl b)]) (e := fun _ => PV.bl true) (l := r) (φ := PV.bl) (fun b _ => ⟨rfl, by simp⟩)]
    have : pAll [.lst (r.map fun _ => PV.bl true)] = pure (.bl true) := by
      have := v_all (f := fun _ : Bool => true) (l := r)
      rw [this]
      congr 2
      simp
    rw [pure_bind, this]
    simp) .un
  unfold tabP at e ⊢
  simp only [pure_bind]
  rw [e, pure_bind]
  simp
  rw [guard_pos (by omega), pure_bind, rng_N]
  obtain ⟨s2, e2⟩ := skip_loop (α := Nat) (f := fun s => [.fz (tabP T), .fz (.int T.length), s', s, .un, .un]) (i := 3) (fun _ _ => rfl) (gb := (sIf
            (gOrT (gTru (gBin pIx (gBin pIx (gVarB 0) (gVarB 3)) (gVarB 3)))
              (gTru
                (gB pAny
                  (SL.gCons
                    (gLc (iRange (SL.gCons (gVar 1) SL.gNil)) (tgName 4) (gTB (gBin pNe (gVarB 4) (gVarB 3)))
                      (gBin pEq (gBin pIx (gBin pIx (gVarB 0) (gVarB 3)) (gVarB 4))
                        (gBin pIx (gBin pIx (gVarB 0) (gVarB 4)) (gVarB 3)))
                      [4])
                    SL.gNil))))
            sNever sNx)) (φ := fun k : Nat => PV.int k) (l := List.range T.length) (fun i hi => by
    have hi := List.mem_range.mp hi
    simp [ix_tab hi, ix2 h hi hi, h.tm.self i hi]
    rw [guard_pos (by omega), pure_bind, rng_N]
    rw [lc_map (c := fun j : Nat => !decide (j = i)) (ρ' := fun j : Nat => [.fz (tabP T), .fz (.int T.length), s', .fz (.int i), .fz (.int j), .un]) (e := fun _ => PV.bl false) (l := List.range T.length) (φ := fun k : Nat => PV.int k) (fun j hj => by
      have hj := List.mem_range.mp hj
      refine ⟨rfl, ?_, fun hc => ?_⟩
      · simp
        by_cases e : j = i
        · subst e; simp
        · have e' : ((j : Int) == (i : Int)) = false := by
            rw [beq_eq_false_iff_ne]; omega
          rw [e']
          simp [e]
      · have ne : i ≠ j := by
          intro z
          rw [z] at hc
          simp at hc
        simp [ix_tab hi, ix_tab hj, ix2 h hi hj, ix2 h hj hi]
        rw [h.tm.opp i j hi hj ne]
        cases bt T j i <;> rfl)]
    have : ∀ l : List Nat, pAny [.lst (l.map fun _ => PV.bl false)] = pure (.bl false) := by
      intro l
      have := v_any (f := fun _ : Nat => false) (l := l)
      rw [this]
      congr 2
      simp
    rw [pure_bind, this]
    simp) .un
  unfold tabP at e2
  rw [e2]
  simp
theorem kings_is {T : List (List Bool)} (h : TabOk T) : m_kings [tabP T] = pure (.tup (((List.range T.length).filter (kingB T)).map fun k : Nat => PV.int k)) := by
  have hle := h.le
  rw [u_kings]; unfold b_kings
  simp [check_m h, len_tab]
  rw [guard_pos (by omega), pure_bind, rng_N]
  rw [lc_map (c := kingB T) (ρ' := fun i : Nat => [.fz (tabP T), .fz (.int i)]) (e := fun k : Nat => PV.int k) (l := List.range T.length) (φ := fun k : Nat => PV.int k) (fun i hi => by
    have hi := List.mem_range.mp hi
    exact ⟨rfl, by simp [is_king_is h hi], fun _ => rfl⟩)]
  simp
/-! drawn -/
theorem e_sMx {gf : EM} {n : Int} {a b c d e f : Slot} : sMx gf [.fz .hand, .fz (.int n), a, b, c, d, e, f] = guardM (0 ≤ n ∧ n ≤ 100) (mxAll (gf (evB n) >>= asBl) (List.range n.toNat) (List.replicate n.toNat (List.replicate n.toNat false)) >>= fun rows => pure (.nx [.fz .hand, .fz (.int n), .fz (matP rows), .un, .un, .un, .un, .un])) := rfl
theorem fill_tab {N : Nat} {T : List (List Bool)} (f : Fill N N 0 T) (h0 : 0 < N) (h1 : N ≤ 7) : TabOk T := by
  have hl := f.len
  exact ⟨by omega, by omega, fun r hr => by rw [hl]; exact f.row r hr, ⟨fun i hi => f.diag i (by omega), fun i j hi hj ne => f.done i j (by omega) (by omega) ne⟩⟩

theorem table_ok {h : HS} (hh : HandOk h) : Ok (m__law_table [.hand]) (fun p h' => ∃ T, p = tabP T ∧ TabOk T ∧ HandOk h') h := by
  rw [u__law_table]; unfold b__law_table
  rw [e_seq]
  simp [-e_seq]
  refine (draw_ok hh (by omega) (by omega)).bind' fun q h1 ⟨r, e, r0, r1, hh1⟩ => ?_
  subst e
  obtain ⟨n, en⟩ : ∃ n : Nat, 1 + r = (n : Int) := ⟨(1 + r).toNat, by omega⟩
  simp [-e_seq, en]
  rw [e_seq]
  rw [e_sMx, guard_pos (by omega), bind_assoc, bind_assoc]
  have e1 : ((n : Int)).toNat = n := by omega
  rw [e1]
  refine (all_ok (N := n) (fun h hh => ?_) (List.range n) 0 _ h1 (by simp) (Nat.zero_le _) (fill_zero n) hh1).bind' fun T h2 ⟨f, hh2⟩ => ?_
  · simp
    refine (draw_ok hh (by omega) (by omega)).bind' fun q h1 ⟨r, e, _, _, hh1⟩ => ?_
    subst e
    simp
    exact hh1
  · have ht := fill_tab f (by omega) (by omega)
    simp [matP]
    rw [lc_all (ρ' := fun r : List Bool => [.fz .hand, .fz (.int n), .fz (.lst (T.map fun r => .lst (r.map PV.bl))), .un, .un, .un, .un, .fz (.lst (r.map PV.bl))]) (e := rowP) (l := T) (φ := fun r => .lst (r.map PV.bl)) (fun r _ => ⟨rfl, by simp [pTupP, rowP]⟩)]
    simp
    exact ⟨T, rfl, ht, hh2⟩
end SLP

end
section
namespace SLP
open PySem L2 SL
/-! ### what is none -/
def noTabL : List PV := [.non, .tup [], .tup [.tup [.bl true]], .lst [.tup [.bl false]], .tup [.lst [.bl false]], .tup [.tup [.bl false, .bl true], .tup [.bl true, .bl false]], .tup [.tup [.bl false, .bl false], .tup [.bl false, .bl false]],
  .tup [.tup [.int 0]], .tup [.tup [.bl false, .bl true]], .tup [.tup [.str "x"]], .int 0, .str "x", .dK [], .tup (List.replicate 8 (.tup (List.replicate 8 (.bl false)))), .tup [.tup [.non]], .tup [.tup [.bl false, .int 1], .tup [.int 0, .bl false]]]
theorem bad_tab {p : PV} (h : p ∈ noTabL) : mx_check_table [p] = pure (.inr "NoTable") := by
  simp only [noTabL, List.mem_cons, List.not_mem_nil, or_false] at h
  rcases h with rfl | rfl | rfl | rfl | rfl | rfl | rfl | rfl | rfl | rfl | rfl | rfl | rfl | rfl | rfl | rfl <;> kernel_rfl
/-- wrapped once -/
def Wrap (p q : PV) : Prop := p = .lst [q] ∨ p = .tup [q]
theorem bad_deep {p q r s : PV} (h1 : Wrap p q) (h2 : Wrap q r) (h3 : Wrap r s) : mx_check_table [p] = pure (.inr "NoTable") := by
  rcases h1 with rfl | rfl <;> rcases h2 with rfl | rfl <;> rcases h3 with rfl | rfl <;> rfl
end SLP

end
section
namespace SLP
open PySem L2 SL
theorem v_ownL {l : List PV} : ownL (some (.ow (.lst l))) = pure l := rfl
/-! ### the least line: depth first, and row by row -/
def rowT (l : List Nat) : PV := .tup (l.map fun k : Nat => .int k)
def nxt (n : Nat) (b : Nat → Nat → Bool) (row : List Nat) (x : Nat) : Bool := decide (x ∉ row) && match row.getLast? with | none => true | some l => b l x
theorem kids_is (n : Nat) (b : Nat → Nat → Bool) (row : List Nat) : kids n b row = ((List.range n).filter (nxt n b row)).map fun x => row ++ [x] := rfl
structure Good (n : Nat) (row : List Nat) : Prop where
  nd : row.Nodup
  bd : ∀ x ∈ row, x < n
theorem nodup_le : ∀ {l m : List Nat}, l.Nodup → (∀ x ∈ l, x ∈ m) → l.length ≤ m.length
  | [], _, _, _ => Nat.zero_le _
  | x :: l, m, h, hs => by
    obtain ⟨h1, h2⟩ := List.nodup_cons.mp h
    have hx := hs x List.mem_cons_self
    have ih := nodup_le (l := l) (m := m.erase x) h2 fun y hy => (List.mem_erase_of_ne fun (z : y = x) => h1 (z ▸ hy)).mpr (hs y (List.mem_cons_of_mem _ hy))
    rw [List.length_erase_of_mem hx] at ih
    have := List.length_pos_of_mem hx
    rw [List.length_cons]
    omega
theorem Good.le {n : Nat} {row : List Nat} (g : Good n row) : row.length ≤ n := by
  have := nodup_le g.nd (m := List.range n) fun x hx => List.mem_range.mpr (g.bd x hx)
  rw [List.length_range] at this
  exact this
theorem kid_good {n : Nat} {b : Nat → Nat → Bool} {row r : List Nat} (g : Good n row) (h : r ∈ kids n b row) : Good n r ∧ r.length = row.length + 1 := by
  obtain ⟨x, hx, rfl⟩ := List.mem_map.mp h
  obtain ⟨h1, h2⟩ := List.mem_filter.mp hx
  rw [Bool.and_eq_true, decide_eq_true_eq] at h2
  refine ⟨⟨?_, fun y hy => ?_⟩, by simp⟩
  · rw [List.nodup_append]
    exact ⟨g.nd, by simp, fun a ha c hc z => by rw [List.mem_singleton.mp hc] at z; exact h2.1 (z ▸ ha)⟩
  · rcases List.mem_append.mp hy with hy | hy
    · exact g.bd y hy
    · rw [List.mem_singleton.mp hy]; exact List.mem_range.mp h1
theorem kids_few {n : Nat} {b : Nat → Nat → Bool} {row : List Nat} (g : Good n row) : (kids n b row).length ≤ n - row.length := by
  rw [kids_is, List.length_map]
  have h1 : ((List.range n).filter (nxt n b row)).length ≤ ((List.range n).filter fun x => !decide (x ∈ row)).length := by
    have : (List.range n).filter (nxt n b row) = ((List.range n).filter fun x => !decide (x ∈ row)).filter (nxt n b row) := by
      rw [List.filter_filter]
      exact List.filter_congr fun x _ => by unfold nxt; by_cases h : x ∈ row <;> simp [h]
    rw [this]
    exact List.length_filter_le _ _
  have h2 : ((List.range n).filter fun x => decide (x ∈ row)).length + ((List.range n).filter fun x => !decide (x ∈ row)).length = n := by
    have := List.length_eq_countP_add_countP (fun x => decide (x ∈ row)) (l := List.range n)
    rw [List.length_range, List.countP_eq_length_filter, List.countP_eq_length_filter] at this
    simp at this ⊢
    omega
  have h3 : row.length ≤ ((List.range n).filter fun x => decide (x ∈ row)).length := nodup_le g.nd fun x hx => List.mem_filter.mpr ⟨List.mem_range.mpr (g.bd x hx), decide_eq_true hx⟩
  omega
def wt : Nat → Nat
  | 0 => 1
  | k + 1 => 1 + (k + 1) * wt k
def wts (n : Nat) (L : List (List Nat)) : Nat := (L.map fun r => wt (n - r.length)).sum
theorem wts_kids {n k : Nat} {L : List (List Nat)} (h : ∀ r ∈ L, n - r.length = k) : wts n L = L.length * wt k := by
  unfold wts
  induction L with
  | nil => simp
  | cons r L ih =>
    rw [List.map_cons, List.sum_cons, ih fun r hr => h r (List.mem_cons_of_mem _ hr), h r List.mem_cons_self, List.length_cons, Nat.succ_mul]
    omega
def iter (n : Nat) (b : Nat → Nat → Bool) : Nat → List (List Nat) → List (List Nat)
  | 0, L => L
  | k + 1, L => iter n b k (L.flatMap (kids n b))
theorem iter_is {n : Nat} {b : Nat → Nat → Bool} : ∀ (k : Nat) (L : List (List Nat)), iter n b k L = L.flatMap (below n b k)
  | 0, L => by
    show L = L.flatMap fun r => [r]
    induction L with
    | nil => rfl
    | cons r L ih => rw [List.flatMap_cons, ← ih]; rfl
  | k + 1, L => by
    rw [iter, iter_is k, List.flatMap_assoc]
    rfl
theorem ix_last {row : List Nat} {l : Nat} (h : row.getLast? = some l) : pIx (rowT row) (.int (-1)) = pure (.int l) := by
  unfold rowT
  rw [v_ixT]
  have hne : row ≠ [] := fun z => by rw [z] at h; cases h
  have hlen : 0 < row.length := List.length_pos_iff.mpr hne
  have : atI (row.map fun k : Nat => PV.int k) (-1) = some (.int l) := by
    unfold atI ixN
    rw [List.length_map, if_neg (by omega), if_pos (by omega)]
    show (row.map fun k : Nat => PV.int k)[((-1 : Int) + row.length).toNat]? = _
    rw [show ((-1 : Int) + row.length).toNat = row.length - 1 by omega, List.getElem?_map, ← List.getLast?_eq_getElem?, h]
    rfl
  rw [this]; rfl
theorem len_T {row : List Nat} : pLen [rowT row] = pure (.int row.length) := by unfold rowT; simp
/-- one row's next ones, as the program and as the law list them -/
theorem nxt_is {T : List (List Bool)} (h : TabOk T) {row : List Nat} (g : Good T.length row) {x : Nat} (hx : x < T.length) {ρ : Ev} {i j k : Nat} (e0 : ρ[i]? = some (.fz (tabP T))) (e1 : ρ[j]? = some (.fz (rowT row))) (e2 : ρ[k]? = some (.fz (.int x))) :
    gOrT (gTB (gBin pEq (gB pLen (SL.gCons (gVarB j) SL.gNil)) (gC (.int 0)))) (gTru (gBin pIx (gBin pIx (gVarB i) (gBin pIx (gVarB j) (gNeg (gC (.int 1))))) (gVarB k))) ρ = pure (match row.getLast? with | none => true | some l => bt T l x) := by
  cases hl : row.getLast? with
  | none =>
    have : row = [] := List.getLast?_eq_none_iff.mp hl
    subst this
    simp [e0, e1, e2, len_T]
  | some l =>
    have hne : ¬ row = [] := fun z => by rw [z] at hl; cases hl
    have hm : l < T.length := g.bd l (List.mem_of_getLast? hl)
    simp [e0, e1, e2, len_T, hne, ix_last hl, ix_tab hm, ix2 h hm hx]
theorem wt_pos : ∀ k, 0 < wt k
  | 0 => Nat.one_pos
  | k + 1 => by unfold wt; omega
theorem wts_len {n : Nat} : ∀ L : List (List Nat), L.length ≤ wts n L
  | [] => Nat.zero_le _
  | r :: L => by
    have := wts_len (n := n) L
    have h := wt_pos (n - r.length)
    unfold wts at this ⊢
    rw [List.map_cons, List.sum_cons, List.length_cons]
    omega
theorem wts_app {n : Nat} (L M : List (List Nat)) : wts n (L ++ M) = wts n L + wts n M := by
  unfold wts
  rw [List.map_append, List.sum_append]
theorem add_T {row : List Nat} {x : Nat} (h : row.length ≤ 100) : pAdd (rowT row) (.tup [.int x]) = pure (rowT (row ++ [x])) := by
  unfold rowT
  rw [v_addT, guard_pos (by rw [List.length_map]; show row.length + 1 ≤ SZ; rw [SZ_is]; omega), List.map_append]
  rfl
abbrev gSome (i j k : Nat) : TM := gAndT (gTB (gBin pNotIn (gVarB k) (gVarB j))) (gOrT (gTB (gBin pEq (gB pLen (SL.gCons (gVarB j) SL.gNil)) (gC (.int 0)))) (gTru (gBin pIx (gBin pIx (gVarB i) (gBin pIx (gVarB j) (gNeg (gC (.int 1))))) (gVarB k))))
theorem some_is {T : List (List Bool)} (h : TabOk T) {row : List Nat} (g : Good T.length row) {x : Nat} (hx : x < T.length) {ρ : Ev} {i j k : Nat} (e0 : ρ[i]? = some (.fz (tabP T))) (e1 : ρ[j]? = some (.fz (rowT row))) (e2 : ρ[k]? = some (.fz (.int x))) :
    gSome i j k ρ = pure (nxt T.length (bt T) row x) := by
  have e := nxt_is h g hx e0 e1 e2
  have en : pNotIn (.int (x : Int)) (rowT row) = pure (.bl (!decide (x ∈ row))) := nin_NT
  have : gSome i j k ρ = (pure (!decide (x ∈ row)) >>= fun c => if c = true then gOrT (gTB (gBin pEq (gB pLen (SL.gCons (gVarB j) SL.gNil)) (gC (.int 0)))) (gTru (gBin pIx (gBin pIx (gVarB i) (gBin pIx (gVarB j) (gNeg (gC (.int 1))))) (gVarB k))) ρ else pure false) := by
    unfold gSome
    rw [e_andT]
    simp [e1, e2, en]
  rw [this, pure_bind, e]
  unfold nxt
  by_cases hm : x ∈ row <;> simp [hm]
def uBody : SM := (sSeq (sPop 1 2)
  (sSeq (sIf (gTB (gBin pEq (gB pLen (SL.gCons (gVarB 2) SL.gNil)) (gB pLen (SL.gCons (gVarB 0) SL.gNil)))) (sRet (gVar 2)) sNx)
  (sSeq (sAsg (gLc (iRange (SL.gCons (gB pLen (SL.gCons (gVarB 0) SL.gNil)) SL.gNil)) (tgName 4) (gSome 0 2 4) (gVar 4) [4]) (tgName 3))
  (sExt 1 (gRev (gLc (iSeq (gVar 3)) (tgName 4) gYes (gBin pAdd (gVarB 2) (SL.gTup (SL.gCons (gVar 4) SL.gNil))) [4]) (oSome (gNeg (gC (.int 1)))))))))
theorem u_step {T : List (List Bool)} (h : TabOk T) {row : List Nat} {L : List (List Nat)} {s2 s3 : Slot} (g : Good T.length row) (hL : L.length ≤ 100000) (hn : row.length ≠ T.length) : ∃ s3', uBody [.fz (tabP T), .ow (.lst ((row :: L).reverse.map rowT)), s2, s3, .un] = pure (.nx [.fz (tabP T), .ow (.lst ((kids T.length (bt T) row ++ L).reverse.map rowT)), .fz (rowT row), s3', .un]) := by
  have hle := h.le
  have hr := g.le
  refine ⟨.fz (.lst (((List.range T.length).filter (nxt T.length (bt T) row)).map fun k : Nat => .int k)), ?_⟩
  have hn' : ¬ (row.length : Int) = (T.length : Int) := by omega
  have ep : sPop 1 2 [.fz (tabP T), .ow (.lst ((row :: L).reverse.map rowT)), s2, s3, .un] = pure (.nx [.fz (tabP T), .ow (.lst (L.reverse.map rowT)), .fz (rowT row), s3, .un]) := by
    unfold sPop
    simp [v_ownL, liftO]
  unfold uBody
  rw [e_seq, ep, pure_bind]
  simp only []
  rw [e_seq]
  simp [len_T, len_tab, hn', -e_seq]
  rw [e_seq]
  simp [len_tab, -e_seq]
  rw [guard_pos (by omega), pure_bind, rng_N]
  rw [lc_map (c := nxt T.length (bt T) row) (ρ' := fun x : Nat => [.fz (tabP T), .ow (.lst (L.map rowT).reverse), .fz (rowT row), s3, .fz (.int x)]) (e := fun k : Nat => PV.int k) (l := List.range T.length) (φ := fun k : Nat => PV.int k) (fun x hx => by
    have hx := List.mem_range.mp hx
    exact ⟨rfl, some_is h g hx rfl rfl rfl, fun _ => rfl⟩)]
  rw [pure_bind]
  obtain ⟨S, hS⟩ : ∃ S, S = (List.range T.length).filter (nxt T.length (bt T) row) := ⟨_, rfl⟩
  have hSl : S.length ≤ 7 := by
    have := kids_few (b := bt T) g
    rw [kids_is, List.length_map, ← hS] at this
    omega
  rw [kids_is, ← hS]
  have el : lcF (tgName 4) gYes (gBin pAdd (gVarB 2) (SL.gTup (SL.gCons (gVar 4) SL.gNil))) [.fz (tabP T), .ow (.lst (L.map rowT).reverse), .fz (rowT row), .fz (.lst (S.map fun k : Nat => PV.int k)), .un] (S.map fun k : Nat => PV.int k) = pure (S.map fun x => rowT (row ++ [x])) := by
    rw [lc_all (ρ' := fun x : Nat => [.fz (tabP T), .ow (.lst (L.map rowT).reverse), .fz (rowT row), .fz (.lst (S.map fun k : Nat => PV.int k)), .fz (.int x)]) (e := fun x => rowT (row ++ [x])) (l := S) (φ := fun k : Nat => PV.int k) (fun x _ => ⟨rfl, by simp [add_T (row := row) (x := x) (by omega)]⟩)]
  have er : gRev (gLc (iSeq (gVar 3)) (tgName 4) gYes (gBin pAdd (gVarB 2) (SL.gTup (SL.gCons (gVar 4) SL.gNil))) [4]) (oSome (gNeg (gC (.int 1)))) [.fz (tabP T), .ow (.lst (L.map rowT).reverse), .fz (rowT row), .fz (.lst (S.map fun k : Nat => PV.int k)), .un] = pure (.lst (S.map fun x => rowT (row ++ [x])).reverse) := by
    unfold gRev
    simp [el]
    rfl
  unfold sExt
  simp [v_ownL, er]
  rw [guard_pos (by
    show _ ≤ SZ
    rw [List.length_reverse, List.length_map, List.length_reverse, List.length_map, SZ_is]; omega)]
  rfl
theorem dfs {T : List (List Bool)} (h : TabOk T) : ∀ (m : Nat) (L : List (List Nat)) (s2 s3 : Slot) (r : List Nat), (∀ row ∈ L, Good T.length row) → wts T.length L < m → m ≤ 100000 → (L.flatMap fun row => below T.length (bt T) (T.length - row.length) row).head? = some r →
    whF (gTB (gBin pGt (gB pLen (SL.gCons (gVarB 1) SL.gNil)) (gC (.int 0)))) uBody m [.fz (tabP T), .ow (.lst (L.reverse.map rowT)), s2, s3, .un] = pure (.rt (rowT r))
  | 0, _, _, _, _, _, hm, _, _ => absurd hm (Nat.not_lt_zero _)
  | m + 1, [], _, _, _, _, _, _, hr => by cases hr
  | m + 1, row :: L, s2, s3, r, hg, hm, hb, hr => by
    have g := hg row List.mem_cons_self
    have gl := g.le
    have hLl : L.length ≤ 100000 := by
      have := wts_len (n := T.length) (row :: L)
      rw [List.length_cons] at this
      omega
    rw [whF]
    have ec : gTB (gBin pGt (gB pLen (SL.gCons (gVarB 1) SL.gNil)) (gC (.int 0))) [.fz (tabP T), .ow (.lst ((row :: L).reverse.map rowT)), s2, s3, .un] = pure true := by
      simp
    rw [ec, pure_bind, if_pos rfl]
    by_cases hn : row.length = T.length
    · have e0 : T.length - row.length = 0 := by omega
      rw [List.flatMap_cons, e0] at hr
      have : r = row := by
        have hr : some row = some r := hr
        exact (Option.some.inj hr).symm
      subst this
      have ep : sPop 1 2 [.fz (tabP T), .ow (.lst ((r :: L).reverse.map rowT)), s2, s3, .un] = pure (.nx [.fz (tabP T), .ow (.lst (L.reverse.map rowT)), .fz (rowT r), s3, .un]) := by
        unfold sPop
        simp [v_ownL, liftO]
      unfold uBody
      rw [e_seq, ep, pure_bind]
      simp only []
      rw [e_seq]
      simp [len_T, len_tab, hn, -e_seq]
    · obtain ⟨s3', e⟩ := u_step (s2 := s2) (s3 := s3) h g hLl hn
      rw [e, pure_bind]
      show whF _ _ m _ = _
      have ek : T.length - row.length = (T.length - (row.length + 1)) + 1 := by omega
      have kg := fun r' hr' => kid_good (b := bt T) g (r := r') hr'
      refine dfs h m (kids T.length (bt T) row ++ L) _ _ r (fun r' hr' => ?_) ?_ (by omega) ?_
      · rcases List.mem_append.mp hr' with z | z
        · exact (kg r' z).1
        · exact hg r' (List.mem_cons_of_mem _ z)
      · rw [wts_app, wts_kids (k := T.length - (row.length + 1)) fun r' hr' => by rw [(kg r' hr').2]]
        have hk := kids_few (b := bt T) g
        have : (kids T.length (bt T) row).length * wt (T.length - (row.length + 1)) ≤ (T.length - row.length) * wt (T.length - (row.length + 1)) := Nat.mul_le_mul_right _ hk
        have hw : wts T.length (row :: L) = wt (T.length - row.length) + wts T.length L := by unfold wts; rw [List.map_cons, List.sum_cons]
        have hw2 : wt (T.length - row.length) = 1 + (T.length - row.length) * wt (T.length - (row.length + 1)) := by
          rw [ek, wt, ← ek]
        omega
      · rw [List.flatMap_append]
        rw [List.flatMap_cons, ek, below] at hr
        rw [show ((kids T.length (bt T) row).flatMap fun row => below T.length (bt T) (T.length - row.length) row) = (kids T.length (bt T) row).flatMap (below T.length (bt T) (T.length - (row.length + 1))) from by
          rw [List.flatMap_def, List.flatMap_def]
          congr 1
          exact List.map_congr_left fun r' hr' => by rw [(kg r' hr').2]]
        exact hr
theorem wt_small {n : Nat} (h : n ≤ 7) : wt n < 100000 := by
  have : n = 0 ∨ n = 1 ∨ n = 2 ∨ n = 3 ∨ n = 4 ∨ n = 5 ∨ n = 6 ∨ n = 7 := by omega
  rcases this with rfl | rfl | rfl | rfl | rfl | rfl | rfl | rfl <;> decide
theorem line_up_is {T : List (List Bool)} (h : TabOk T) {r : List Nat} (hr : (below T.length (bt T) T.length []).head? = some r) : m_line_up [tabP T] = pure (rowT r) := by
  have e := dfs h 100000 [[]] .un .un r (fun row hrow => by rw [List.mem_singleton.mp hrow]; exact ⟨.nil, fun _ h => by cases h⟩) (by
    unfold wts
    simp
    exact wt_small h.le) (Nat.le_refl _) (by simpa using hr)
  rw [u_line_up]; unfold b_line_up
  rw [e_seq]
  simp [check_m h, -e_seq]
  rw [e_seq]
  simp [-e_seq]
  rw [e_seq]
  unfold sWh
  unfold uBody gSome at e
  have e' : whF _ _ 100000 [.fz (tabP T), .ow (.lst [.tup []]), .un, .un, .un] = _ := e
  rw [e']
  simp
/-! row by row -/
def lBody : SM := (sSeq (sOwn (SL.gLst SL.gNil) 3)
  (sSeq (sFor (iSeq (gVar 1)) (tgName 4) (sSeq (sAsg (gLc (iRange (SL.gCons (gB pLen (SL.gCons (gVarB 0) SL.gNil)) SL.gNil)) (tgName 6) (gTB (gBin pNotIn (gVarB 6) (gVarB 4))) (gVar 6) [6]) (tgName 5))
  (sExt 3 (gLc (iSeq (gVar 5)) (tgName 6) (gOrT (gTB (gBin pEq (gB pLen (SL.gCons (gVarB 4) SL.gNil)) (gC (.int 0)))) (gTru (gBin pIx (gBin pIx (gVarB 0) (gBin pIx (gVarB 4) (gNeg (gC (.int 1))))) (gVarB 6)))) (gBin pAdd (gVarB 4) (SL.gTup (SL.gCons (gVar 6) SL.gNil))) [6]))))
  (sFrz 3 (sAsg (gVar 3) (tgName 1)))))
theorem l_row {T : List (List Bool)} (h : TabOk T) {row : List Nat} {L : List (List Nat)} {s1 s2 s4 s5 s6 : Slot} (g : Good T.length row) (hL : L.length ≤ 1000000) : ∃ s5', (tgName 4 (rowT row) [.fz (tabP T), s1, s2, .ow (.lst (L.map rowT)), s4, s5, s6] >>= (sSeq (sAsg (gLc (iRange (SL.gCons (gB pLen (SL.gCons (gVarB 0) SL.gNil)) SL.gNil)) (tgName 6) (gTB (gBin pNotIn (gVarB 6) (gVarB 4))) (gVar 6) [6]) (tgName 5))
  (sExt 3 (gLc (iSeq (gVar 5)) (tgName 6) (gOrT (gTB (gBin pEq (gB pLen (SL.gCons (gVarB 4) SL.gNil)) (gC (.int 0)))) (gTru (gBin pIx (gBin pIx (gVarB 0) (gBin pIx (gVarB 4) (gNeg (gC (.int 1))))) (gVarB 6)))) (gBin pAdd (gVarB 4) (SL.gTup (SL.gCons (gVar 6) SL.gNil))) [6])))) =
    pure (.nx [.fz (tabP T), s1, s2, .ow (.lst ((L ++ kids T.length (bt T) row).map rowT)), .fz (rowT row), s5', s6]) := by
  have hle := h.le
  have hr := g.le
  obtain ⟨S0, hS0⟩ : ∃ S, S = (List.range T.length).filter fun x => !decide (x ∈ row) := ⟨_, rfl⟩
  refine ⟨.fz (.lst (S0.map fun k : Nat => .int k)), ?_⟩
  simp [len_tab, -e_seq]
  rw [e_seq]
  simp [len_tab, -e_seq]
  rw [guard_pos (by omega), pure_bind, rng_N]
  rw [lc_map (c := fun x : Nat => !decide (x ∈ row)) (ρ' := fun x : Nat => [.fz (tabP T), s1, s2, .ow (.lst (L.map rowT)), .fz (rowT row), s5, .fz (.int x)]) (e := fun k : Nat => PV.int k) (l := List.range T.length) (φ := fun k : Nat => PV.int k) (fun x hx => by
    have en : pNotIn (.int (x : Int)) (rowT row) = pure (.bl (!decide (x ∈ row))) := nin_NT
    exact ⟨rfl, by simp [en], fun _ => rfl⟩)]
  rw [pure_bind, ← hS0]
  have hb : ∀ x ∈ S0, x < T.length := fun x hx => by rw [hS0] at hx; exact List.mem_range.mp (List.mem_filter.mp hx).1
  have ek : kids T.length (bt T) row = (S0.filter fun x => match row.getLast? with | none => true | some l => bt T l x).map fun x => row ++ [x] := by
    rw [kids_is, hS0, List.filter_filter]
    congr 1
    exact List.filter_congr fun x _ => by unfold nxt; rw [Bool.and_comm]; congr 1; by_cases hx : x ∈ row <;> simp [hx]
  have hk := kids_few (b := bt T) g
  have el : lcF (tgName 6) (gOrT (gTB (gBin pEq (gB pLen (SL.gCons (gVarB 4) SL.gNil)) (gC (.int 0)))) (gTru (gBin pIx (gBin pIx (gVarB 0) (gBin pIx (gVarB 4) (gNeg (gC (.int 1))))) (gVarB 6)))) (gBin pAdd (gVarB 4) (SL.gTup (SL.gCons (gVar 6) SL.gNil))) [.fz (tabP T), s1, s2, .ow (.lst (L.map rowT)), .fz (rowT row), .fz (.lst (S0.map fun k : Nat => PV.int k)), .un] (S0.map fun k : Nat => PV.int k) = pure ((kids T.length (bt T) row).map rowT) := by
    rw [lc_map (c := fun x : Nat => match row.getLast? with | none => true | some l => bt T l x) (ρ' := fun x : Nat => [.fz (tabP T), s1, s2, .ow (.lst (L.map rowT)), .fz (rowT row), .fz (.lst (S0.map fun k : Nat => PV.int k)), .fz (.int x)]) (e := fun x : Nat => rowT (row ++ [x])) (l := S0) (φ := fun k : Nat => PV.int k) (fun x hx => ⟨rfl, nxt_is h g (hb x hx) rfl rfl rfl, fun _ => by simp [add_T (row := row) (x := x) (by omega)]⟩), ek, List.map_map]
    rfl
  unfold sExt
  simp [v_ownL, el]
  rw [guard_pos (by show _ ≤ SZ; rw [SZ_is]; first | omega | (rw [List.length_map, List.length_map]; omega))]
/-- a level -/
theorem l_lap {T : List (List Bool)} (h : TabOk T) {L : List (List Nat)} {s2 s3 s4 s5 s6 : Slot} (hg : ∀ row ∈ L, Good T.length row) (hL : L.length ≤ 120000) : ∃ s4' s5', lBody [.fz (tabP T), .fz (.lst (L.map rowT)), s2, s3, s4, s5, s6] = pure (.nx [.fz (tabP T), .fz (.lst ((L.flatMap (kids T.length (bt T))).map rowT)), s2, .fz (.lst ((L.flatMap (kids T.length (bt T))).map rowT)), s4', s5', s6]) := by
  have loop : ∀ (l M : List (List Nat)) (s4 s5 : Slot), (∀ row ∈ l, Good T.length row) → M.length + 7 * l.length ≤ 1000000 → ∃ s4' s5', forF (tgName 4) (sSeq (sAsg (gLc (iRange (SL.gCons (gB pLen (SL.gCons (gVarB 0) SL.gNil)) SL.gNil)) (tgName 6) (gTB (gBin pNotIn (gVarB 6) (gVarB 4))) (gVar 6) [6]) (tgName 5))
  (sExt 3 (gLc (iSeq (gVar 5)) (tgName 6) (gOrT (gTB (gBin pEq (gB pLen (SL.gCons (gVarB 4) SL.gNil)) (gC (.int 0)))) (gTru (gBin pIx (gBin pIx (gVarB 0) (gBin pIx (gVarB 4) (gNeg (gC (.int 1))))) (gVarB 6)))) (gBin pAdd (gVarB 4) (SL.gTup (SL.gCons (gVar 6) SL.gNil))) [6]))) (l.map rowT) [.fz (tabP T), .fz (.lst (L.map rowT)), s2, .ow (.lst (M.map rowT)), s4, s5, s6] =
      pure (.nx [.fz (tabP T), .fz (.lst (L.map rowT)), s2, .ow (.lst ((M ++ l.flatMap (kids T.length (bt T))).map rowT)), s4', s5', s6]) := by
    intro l
    induction l with
    | nil => intro M s4 s5 _ _; exact ⟨s4, s5, by rw [List.flatMap_nil, List.append_nil]; rfl⟩
    | cons row l ih =>
      intro M s4 s5 hl hM
      have g := hl row List.mem_cons_self
      have hk := kids_few (b := bt T) g
      have hle := h.le
      rw [List.length_cons] at hM
      obtain ⟨s5', e⟩ := l_row (L := M) (s1 := .fz (.lst (L.map rowT))) (s2 := s2) (s4 := s4) (s5 := s5) (s6 := s6) h g (by omega)
      obtain ⟨a, b, e2⟩ := ih (M ++ kids T.length (bt T) row) (.fz (rowT row)) s5' (fun r hr => hl r (List.mem_cons_of_mem _ hr)) (by rw [List.length_append]; omega)
      refine ⟨a, b, ?_⟩
      rw [List.map_cons, forF, ← bind_assoc, e, pure_bind]
      show forF _ _ (l.map rowT) _ = _
      rw [e2, List.flatMap_cons, List.append_assoc]
  obtain ⟨a, b, e⟩ := loop L [] s4 s5 hg (by simp; omega)
  refine ⟨a, b, ?_⟩
  unfold lBody
  rw [e_seq]
  simp [-e_seq]
  rw [e_seq]
  simp [-e_seq]
  simp only [List.map_nil] at e
  rw [e]
  simp [frz1]
theorem flat_few {T : List (List Bool)} (h : TabOk T) : ∀ {L : List (List Nat)}, (∀ row ∈ L, Good T.length row) → (L.flatMap (kids T.length (bt T))).length ≤ 7 * L.length
  | [], _ => by simp
  | row :: L, hg => by
    have ih := flat_few h (L := L) fun r hr => hg r (List.mem_cons_of_mem _ hr)
    have hk := kids_few (b := bt T) (hg row List.mem_cons_self)
    have hle := h.le
    rw [List.flatMap_cons, List.length_append, List.length_cons]
    omega
theorem l_all {T : List (List Bool)} (h : TabOk T) : ∀ (ps : List Nat) (L : List (List Nat)) (s2 s3 s4 s5 s6 : Slot), (∀ row ∈ L, Good T.length row) → L.length * 7 ^ ps.length ≤ 823543 → ∃ s2' s3' s4' s5', forF (tgName 2) lBody (ps.map fun k : Nat => .int k) [.fz (tabP T), .fz (.lst (L.map rowT)), s2, s3, s4, s5, s6] = pure (.nx [.fz (tabP T), .fz (.lst ((iter T.length (bt T) ps.length L).map rowT)), s2', s3', s4', s5', s6])
  | [], L, s2, s3, s4, s5, s6, _, _ => ⟨s2, s3, s4, s5, rfl⟩
  | p :: ps, L, s2, s3, s4, s5, s6, hg, hL => by
    have h7 : 0 < 7 ^ ps.length := Nat.pos_of_ne_zero (by simp)
    rw [List.length_cons, Nat.pow_succ, Nat.mul_comm (7 ^ ps.length) 7, ← Nat.mul_assoc] at hL
    have hL2 : L.length * 7 ≤ 823543 := Nat.le_trans (Nat.le_mul_of_pos_right _ h7) hL
    obtain ⟨a4, a5, e⟩ := l_lap (s2 := .fz (.int p)) (s3 := s3) (s4 := s4) (s5 := s5) (s6 := s6) h hg (by omega)
    have hf := flat_few h hg
    obtain ⟨b2, b3, b4, b5, e2⟩ := l_all h ps (L.flatMap (kids T.length (bt T))) (.fz (.int p)) _ a4 a5 s6 (fun r hr => by
      obtain ⟨row, h1, h2⟩ := List.mem_flatMap.mp hr
      exact (kid_good (hg row h1) h2).1) (Nat.le_trans (Nat.mul_le_mul_right _ (by omega : _ ≤ L.length * 7)) hL)
    refine ⟨b2, b3, b4, b5, ?_⟩
    rw [List.map_cons, forF, e_tname, pure_bind]
    show (lBody [.fz (tabP T), .fz (.lst (L.map rowT)), .fz (.int p), s3, s4, s5, s6] >>= _) = _
    rw [e, pure_bind]
    exact e2
theorem law_line_is {T : List (List Bool)} (h : TabOk T) {r : List Nat} (hr : (below T.length (bt T) T.length []).head? = some r) : m__law_line [tabP T] = pure (rowT r) := by
  have hle := h.le
  obtain ⟨b2, b3, b4, b5, e⟩ := l_all h (List.range T.length) [[]] .un .un .un .un .un (fun row hrow => by rw [List.mem_singleton.mp hrow]; exact ⟨.nil, fun _ h => by cases h⟩) (by
    rw [List.length_range]
    have : 7 ^ T.length ≤ 7 ^ 7 := Nat.pow_le_pow_right (by decide) hle
    simp
    exact this)
  rw [List.length_range, iter_is] at e
  rw [u__law_line]; unfold b__law_line
  rw [e_seq]
  simp [-e_seq]
  rw [e_seq]
  simp [len_tab, -e_seq]
  rw [guard_pos (by omega), pure_bind, rng_N]
  unfold lBody at e
  have e' : forF (tgName 2) _ (rN T.length) [.fz (tabP T), .fz (.lst [.tup []]), .un, .un, .un, .un, .un] = _ := e
  rw [e']
  cases hb : below T.length (bt T) T.length [] with
  | nil => rw [hb] at hr; cases hr
  | cons x l =>
    rw [hb] at hr
    cases hr
    simp [hb]
end SLP

end
section
namespace SLP
open PySem L2 SL
/-! ### judged right -/
theorem same_data {p : PV} {d : PyData} (h : toD p = some d) (hs : SeqAt.shaped d = true) (neg : Bool) : (match toD p, toD p with
    | some d, some e => guardM (SeqAt.shaped d = true ∧ SeqAt.shaped e = true) (pure (PV.bl (neg ^^ PyData.eqv d e)))
    | _, _ => stuck) = (pure (.bl (neg ^^ true)) : M PV) := by
  have e : PyData.eqv d d = true := SeqAt.eqv_refl d (SeqAt.canLay_of_shaped hs)
  rw [h]
  dsimp only
  rw [guard_pos ⟨hs, hs⟩, e]
theorem ne_selfL {l : List PV} {d : PyData} (h : toD (.lst l) = some d) (hs : SeqAt.shaped d = true) : pNe (.lst l) (.lst l) = pure (.bl false) := same_data h hs true
theorem eq_selfL {l : List PV} {d : PyData} (h : toD (.lst l) = some d) (hs : SeqAt.shaped d = true) : pEq (.lst l) (.lst l) = pure (.bl true) := same_data h hs false
theorem lay_ints : ∀ r : List Int, PyData.canLayAll0 (r.map PyData.int) = true
  | [] => by simp [PyData.canLayAll0]
  | i :: r => by rw [List.map_cons, PyData.canLayAll0, lay_ints r]; rfl
abbrev nD (l : List Nat) : PyData := .tuple ((l.map fun k : Nat => (k : Int)).map PyData.int)
abbrev nP (l : List Nat) : PV := .tup (l.map fun k : Nat => PV.int k)
theorem toD_n (l : List Nat) : toD (nP l) = some (nD l) := by
  have : (l.map fun k : Nat => PV.int k) = (l.map fun k : Nat => (k : Int)).map PV.int := by rw [List.map_map]; rfl
  unfold nP
  rw [this, toD, toDs_ints]
  rfl
theorem toD_two (l : List Nat) : toD (.lst [nP l, nP l]) = some (.list [nD l, nD l]) := by
  rw [toD, toDs, toDs, toDs, toD_n]
  rfl
theorem shaped_two (l : List Nat) : SeqAt.shaped (.list [nD l, nD l]) = true := by
  unfold SeqAt.shaped
  have h : (PyData.list [nD l, nD l]).canLay0 = true := by simp only [PyData.canLay0, PyData.canLayAll0, nD, lay_ints, Bool.and_self]
  have h2 : (PyData.list [nD l, nD l]).depth ≤ 16 := by simp only [PyData.depth, PyData.depthAll, nD, PySem.W.depth_ints]; decide
  simp only [h, Bool.true_and, decide_eq_true_eq]
  omega
theorem cnt_row {r : List Bool} : pCntP (rowP r) [.bl true] = pure (.int (r.countP id : Nat)) := by
  show guardM _ (pure (PV.int _)) = _
  have hf : (r.map PV.bl).all flatP = true := by
    rw [List.all_eq_true]
    intro y hy
    obtain ⟨x, _, rfl⟩ := List.mem_map.mp hy
    rfl
  rw [guard_pos ⟨rfl, hf⟩, List.countP_map]
  congr 4
  funext x
  show (x == true) = x
  cases x <;> rfl
theorem intLt (a b : Int) : PySem.W.dataLt (.int a) (.int b) = decide (a < b) := by
  unfold PySem.W.dataLt
  simp only [PySem.W.keyToks]
  by_cases h : a = b
  · subst h
    rw [decide_eq_false (by omega)]
    rw [PyProof.Rows.lex_self]
    rfl
  · rw [PyProof.Rows.lex_diff (fun e => h (by cases e; rfl))]
    rfl
theorem best_max {bt : Nat → Nat → Bool} {v : Nat → Int} {K : Nat} (hb : ∀ i j, i ≤ K → j ≤ K → bt i j = decide (v j < v i)) : ∀ k, k ≤ K → argBest bt k ≤ k ∧ ∀ j, j ≤ k → v j ≤ v (argBest bt k)
  | 0, _ => ⟨Nat.le_refl _, fun j hj => by rw [Nat.le_zero.mp hj]; exact Int.le_refl _⟩
  | k + 1, hK => by
    obtain ⟨h1, h2⟩ := best_max hb k (by omega)
    rw [argBest, hb _ _ hK (by omega)]
    by_cases e : v (argBest bt k) < v (k + 1)
    · rw [if_pos (decide_eq_true e)]
      refine ⟨Nat.le_refl _, fun j hj => ?_⟩
      rcases Nat.lt_or_eq_of_le hj with h | h
      · have := h2 j (by omega); omega
      · rw [h]; exact Int.le_refl _
    · rw [if_neg (by simp [e])]
      refine ⟨by omega, fun j hj => ?_⟩
      rcases Nat.lt_or_eq_of_le hj with h | h
      · exact h2 j (by omega)
      · rw [h]; omega
theorem max_ints {l : List Int} (h : l ≠ []) : ∃ m ∈ l, (∀ x ∈ l, x ≤ m) ∧ pMaxD [.lst (l.map PV.int)] = pure (.int m) := by
  have hpos : 0 < l.length := List.length_pos_iff.mpr h
  have hD : ∀ i (h : i < l.length), (l.map PyData.int).getD i .none = .int l[i] := fun i h => by
    rw [List.getD_eq_getElem?_getD, List.getElem?_map, List.getElem?_eq_getElem h]; rfl
  have hv : ∀ i (h : i < l.length), l.getD i 0 = l[i] := fun i h => by rw [List.getD_eq_getElem?_getD, List.getElem?_eq_getElem h]; rfl
  obtain ⟨k1, k2⟩ := best_max (K := l.length - 1) (bt := fun i j => PySem.W.dataLt ((l.map PyData.int).getD j .none) ((l.map PyData.int).getD i .none)) (v := fun i => l.getD i 0) (fun i j hi hj => by
    rw [hD i (by omega), hD j (by omega), hv i (by omega), hv j (by omega), intLt]) (l.length - 1) (Nat.le_refl _)
  have e1 : maxIx (l.map PyData.int) = argBest (fun i j => PySem.W.dataLt ((l.map PyData.int).getD j .none) ((l.map PyData.int).getD i .none)) (l.length - 1) := by
    unfold maxIx
    rw [List.length_map]
  rw [← e1] at k1 k2
  generalize hm' : maxIx (l.map PyData.int) = m at *
  have hm : m < l.length := by omega
  refine ⟨l[m], List.getElem_mem _, fun x hx => ?_, ?_⟩
  · obtain ⟨j, hj, rfl⟩ := List.mem_iff_getElem.mp hx
    have := k2 j (by omega)
    rwa [hv j hj, hv m hm] at this
  · show mmP maxIx (l.map PV.int) = _
    unfold mmP
    rw [toDs_ints]
    dsimp only
    have ne : (l.map PV.int).isEmpty = false := by cases l <;> first | exact absurd rfl h | rfl
    have ok : okMM (l.map PyData.int) = true := by
      unfold okMM alikeB
      simp only [Bool.and_eq_true, decide_eq_true_eq]
      refine ⟨⟨?_, ?_⟩, Nat.le_trans (Nat.le_of_eq (PySem.W.depth_ints l)) (by decide)⟩
      · simp only [List.all_map, List.all_eq_true]
        intro x _
        show (l.all _) = true
        rw [List.all_eq_true]
        exact fun y _ => rfl
      · simp only [List.all_map, List.all_eq_true]
        exact fun x _ => rfl
    rw [guard_pos ⟨ok, ne⟩, hm', List.getElem?_map, List.getElem?_eq_getElem hm]
    rfl
theorem deg_row {T : List (List Bool)} (h : TabOk T) {i : Nat} (hi : i < T.length) : (rowOf T i).countP id = deg (bt T) (List.range T.length) i := by
  have hl := row_len h hi
  have e : rowOf T i = (List.range T.length).map (bt T i) := by
    apply List.ext_getElem
    · rw [List.length_map, List.length_range, hl]
    · intro k h1 h2
      rw [List.getElem_map, List.getElem_range]
      unfold bt
      show _ = (rowOf T i).getD k false
      rw [getD_lt h1]
  unfold deg
  rw [e, List.countP_map]
  rfl
theorem toDs_map' {α : Type} {f : α → PV} {d : α → PyData} (h : ∀ x, toD (f x) = some (d x)) : ∀ l : List α, toDs (l.map f) = some (l.map d)
  | [] => rfl
  | x :: l => by rw [List.map_cons, toDs, h x, toDs_map' h l]; rfl
theorem repr_tab {T : List (List Bool)} (h : TabOk T) : ∃ S, pRepr [tabP T] = pure (.str S) := by
  have hle := h.le
  have e1 : ∀ r : List Bool, toD (rowP r) = some (.tuple (r.map PyData.bool)) := fun r => by
    have : ∀ r : List Bool, toDs (r.map PV.bl) = some (r.map PyData.bool) := toDs_map' (fun b => rfl)
    unfold rowP
    rw [toD, this]; rfl
  have e2 : toD (tabP T) = some (.tuple (T.map fun r => .tuple (r.map PyData.bool))) := by
    unfold tabP
    rw [toD, toDs_map' e1]; rfl
  refine ⟨_, v_repr e2 ?_⟩
  have hr : ∀ r ∈ T, Sm 1 7 (.tuple (r.map PyData.bool)) := fun r hr => by
    have a := SmAll.map (k := 0) (w := 0) (f := PyData.bool) (l := r) fun x _ => .bool
    have hl := h.row r hr
    exact ⟨a.tup.sh, a.tup.ok, a.tup.nd, a.tup.dp, Nat.le_trans a.tup.wt (by omega)⟩
  exact (SmAll.map (k := 1) (w := 7) (f := fun r : List Bool => .tuple (r.map PyData.bool)) (l := T) hr).tup.okR (by decide) (by omega)
theorem right_is {T : List (List Bool)} (h : TabOk T) : m__law_is_right [tabP T] = pure (.bl true) := by
  have hle := h.le
  have hpos := h.pos
  obtain ⟨S, hS⟩ := repr_tab h
  obtain ⟨r, hr⟩ : ∃ r, (below T.length (bt T) T.length []).head? = some r := by
    cases hb : below T.length (bt T) T.length [] with
    | nil => exact absurd hb (line_some h.tm)
    | cons x l => exact ⟨x, rfl⟩
  have k1 := kings_is h
  obtain ⟨Kl, hK⟩ : ∃ Kl, Kl = (List.range T.length).filter (kingB T) := ⟨_, rfl⟩
  rw [← hK] at k1
  have hne : pNe (.lst [nP Kl, nP Kl]) (.lst [nP Kl, nP Kl]) = pure (.bl false) := ne_selfL (toD_two Kl) (shaped_two Kl)
  have hin : pIn (.int (Kl.length : Int)) (.tup [.int 0, .int 2]) = pure (.bl (decide ((Kl.length : Int) ∈ ([0, 2] : List Int)))) := v_inI (A := [0, 2])
  have memK : ∀ i, i ∈ Kl ↔ i < T.length ∧ King T.length (bt T) i := fun i => by rw [hK, List.mem_filter, List.mem_range, king_iff]
  have nd : Kl.Nodup := by rw [hK]; exact List.nodup_range.filter _
  have hlen : ¬ ((Kl.length : Int) ∈ ([0, 2] : List Int)) := by
    intro z
    have z : Kl.length = 0 ∨ Kl.length = 2 := by
      rcases List.mem_cons.mp z with z | z
      · exact .inl (by omega)
      · have := List.mem_singleton.mp z
        exact .inr (by omega)
    rcases z with z | z
    · obtain ⟨c, c1, c2⟩ := some_king h.tm hpos
      have := (memK c).mpr ⟨c1, c2⟩
      rw [List.length_eq_zero_iff.mp z] at this
      cases this
    · match Kl, z, memK, nd with
      | [x, y], _, memK, nd =>
        have ne : x ≠ y := by
          have := (List.nodup_cons.mp nd).1
          simpa using this
        obtain ⟨x1, x2⟩ := (memK x).mp (by simp)
        obtain ⟨y1, y2⟩ := (memK y).mp (by simp)
        obtain ⟨c, c1, c2, c3, c4⟩ := not_two h.tm x1 y1 ne x2 y2
        have := (memK c).mpr ⟨c1, c4⟩
        simp at this
        rcases this with e | e
        · exact c2 e
        · exact c3 e
  rw [decide_eq_false hlen] at hin
  have heq : pEq (.lst [nP r, nP r]) (.lst [nP r, nP r]) = pure (.bl true) := eq_selfL (toD_two r) (shaped_two r)
  have l1 : m_line_up [tabP T] = pure (nP r) := line_up_is h hr
  have l2 : m__law_line [tabP T] = pure (nP r) := law_line_is h hr
  rw [u__law_is_right]; unfold b__law_is_right
  rw [e_seq]
  simp [hS, -e_seq]
  rw [e_seq]
  simp [len_tab, -e_seq]
  rw [guard_pos (by omega), pure_bind, rng_N]
  rw [lc_map (c := kingB T) (ρ' := fun i : Nat => [.fz (tabP T), .fz (.str S), .un, .un, .un, .fz (.int i), .un]) (e := fun k : Nat => PV.int k) (l := List.range T.length) (φ := fun k : Nat => PV.int k) (fun i hi => by
    have hi := List.mem_range.mp hi
    exact ⟨rfl, by simp [law_king_is h hi], fun _ => rfl⟩)]
  rw [pure_bind, ← hK]
  rw [e_seq]
  unfold nP at *
  simp [k1, hne, hin, -e_seq, -List.mem_cons]
  rw [e_seq]
  have hTn : T.map (fun r => ((r.countP id : Nat) : Int)) ≠ [] := by
    intro z
    have := congrArg List.length z
    rw [List.length_map] at this
    have : T.length = 0 := this
    omega
  obtain ⟨M, hM1, hM2, hM3⟩ := max_ints hTn
  rw [List.map_map] at hM3
  have hM3 : pMaxD [.lst (T.map fun r => PV.int (r.countP id : Nat))] = pure (.int M) := hM3
  have hrows : ((rng 0 (T.map rowP).length).zip (T.map rowP)).map (fun t => PV.tup [t.1, t.2]) = (List.range T.length).map fun i : Nat => .tup [.int i, rowP (rowOf T i)] := by
    apply List.ext_getElem
    · simp [rng]
    · intro k h1 h2
      have hk : k < T.length := by simpa using h2
      simp [rng]
      unfold rowOf
      rw [getD_lt hk]
  have em : (sAsg (gB pMaxD (SL.gCons (gLc (iSeq (gVar 0)) (tgName 6) gYes (gMeth isPtp pCntP (gVarB 6) (SL.gCons (gC (PV.bl true)) SL.gNil)) [6]) SL.gNil)) (tgName 3)) [.fz (tabP T), .fz (.str S), .fz (.tup (Kl.map fun k : Nat => PV.int k)), .un, .un, .un, .un] = pure (.nx [.fz (tabP T), .fz (.str S), .fz (.tup (Kl.map fun k : Nat => PV.int k)), .fz (.int M), .un, .un, .un]) := by
    simp
    unfold tabP
    simp only [pure_bind]
    rw [lc_all (ρ' := fun r : List Bool => [.fz (.tup (T.map rowP)), .fz (.str S), .fz (.tup (Kl.map fun k : Nat => PV.int k)), .un, .un, .un, .fz (rowP r)]) (e := fun r : List Bool => PV.int (r.countP id : Nat)) (l := T) (φ := rowP) (fun r _ => ⟨rfl, by simp [isPtp, rowP]; exact cnt_row⟩)]
    rw [pure_bind, hM3]
    simp
  rw [em, pure_bind]
  simp only []
  rw [e_seq]
  have ea : (sIf (gNotT (gTru (gB pAll (SL.gCons (gLc (iEnumA (SL.gCons (gVar 0) SL.gNil)) (tgTup 2 (tgCons (tgName 5) (tgCons (tgName 6) tgNil))) (gTB (gBin pEq (gMeth isPtp pCntP (gVarB 6) (SL.gCons (gC (PV.bl true)) SL.gNil)) (gVarB 3))) (gBin pIn (gVarB 5) (gVarB 2)) [5, 6]) SL.gNil)))) (sRet (gC (PV.bl false))) sNx) [.fz (tabP T), .fz (.str S), .fz (.tup (Kl.map fun k : Nat => PV.int k)), .fz (.int M), .un, .un, .un] = pure (.nx [.fz (tabP T), .fz (.str S), .fz (.tup (Kl.map fun k : Nat => PV.int k)), .fz (.int M), .un, .un, .un]) := by
    simp
    unfold tabP
    simp only [pure_bind]
    rw [hrows]
    rw [lc_map (c := fun i : Nat => decide ((((rowOf T i).countP id : Nat) : Int) = M)) (ρ' := fun i : Nat => [.fz (.tup (T.map rowP)), .fz (.str S), .fz (.tup (Kl.map fun k : Nat => PV.int k)), .fz (.int M), .un, .fz (.int i), .fz (rowP (rowOf T i))]) (e := fun i : Nat => PV.bl (decide (i ∈ Kl))) (l := List.range T.length) (φ := fun i : Nat => .tup [.int i, rowP (rowOf T i)]) (fun i hi => by
      refine ⟨rfl, ?_, fun _ => by simp [in_NT]⟩
      have ec := cnt_row (r := rowOf T i)
      have ip : isPtp (rowP (rowOf T i)) = true := rfl
      simp [ip, ec]
      congr 1)]
    rw [pure_bind, v_all]
    have : ((List.range T.length).filter fun i : Nat => decide ((((rowOf T i).countP id : Nat) : Int) = M)).all (fun i => decide (i ∈ Kl)) = true := by
      rw [List.all_eq_true]
      intro i hi
      obtain ⟨i1, i2⟩ := List.mem_filter.mp hi
      have i1 := List.mem_range.mp i1
      have i2 := of_decide_eq_true i2
      refine decide_eq_true ((memK i).mpr ⟨i1, most_king h.tm i1 fun x hx => ?_⟩)
      rw [← deg_row h hx, ← deg_row h i1]
      have := hM2 (((rowOf T x).countP id : Nat) : Int) (List.mem_map.mpr ⟨rowOf T x, by unfold rowOf; rw [getD_lt hx]; exact List.getElem_mem _, rfl⟩)
      omega
    rw [this]
    simp
  rw [ea, pure_bind]
  simp only []
  rw [e_seq]
  simp [l2, -e_seq]
  have eS : pEq (.str S) (.str S) = pure (.bl true) := by
    show pure _ = _
    simp
  simp [l1, heq, hS, eS]
end SLP

end
section
namespace SLP
open PySem L2 SL
theorem check_kings {p : PV} (h : mx_check_table [p] = pure (.inr "NoTable")) : mx_kings [p] = pure (.inr "NoTable") := by
  rw [ux_kings]; unfold bx_kings
  simp [h, finX]
theorem check_line {p : PV} (h : mx_check_table [p] = pure (.inr "NoTable")) : mx_line_up [p] = pure (.inr "NoTable") := by
  rw [ux_line_up]; unfold bx_line_up
  simp [h, finX]
theorem w_tab : wm__law_said (.inr "NoTable") = pure (.str "table") := rfl
def Deep : Nat → PV → Prop
  | 0, _ => True
  | k + 1, p => ∃ q, Wrap p q ∧ Deep k q
theorem deep_step {k : Nat} {q : PV} (h : Deep k q) : Deep (k + 1) (.lst [q]) ∧ Deep (k + 1) (.tup [q]) := ⟨⟨q, .inl rfl, h⟩, ⟨q, .inr rfl, h⟩⟩
theorem deep_less : ∀ {k : Nat} {p : PV}, Deep (k + 1) p → Deep k p
  | 0, _, _ => trivial
  | k + 1, p, ⟨q, h1, h2⟩ => ⟨q, h1, deep_less h2⟩
theorem deep_to {k m : Nat} {p : PV} (h : Deep m p) (hk : k ≤ m) : Deep k p := by
  induction m with
  | zero => have : k = 0 := by omega
            subst this; exact h
  | succ m ih =>
    by_cases e : k = m + 1
    · subst e; exact h
    · exact ih (deep_less h) (by omega)
theorem bad_deep3 {p : PV} (h : Deep 3 p) : mx_check_table [p] = pure (.inr "NoTable") := by
  obtain ⟨q, h1, r, h2, s, h3, _⟩ := h
  exact bad_deep h1 h2 h3
def dBody : SM := (sAsg (gIf (gTB (gBin pEq (gB m__law_draw (SL.gCons (gVar 0) (SL.gCons (gC (.int 2)) SL.gNil))) (gC (.int 0)))) (SL.gLst (SL.gCons (gVar 1) SL.gNil)) (SL.gTup (SL.gCons (gVar 1) SL.gNil))) (tgName 1))
theorem deep_loop : ∀ (ps : List PV) (k : Nat) (p : PV) (s2 : Slot) (h : HS), Deep k p → HandOk h → Ok (forF (tgName 2) dBody ps [.fz .hand, .fz p, s2]) (fun o h' => ∃ p' s2', o = .nx [.fz .hand, .fz p', s2'] ∧ Deep (k + ps.length) p' ∧ HandOk h') h
  | [], k, p, s2, h, hd, hh => Ok.pure ⟨p, s2, rfl, hd, hh⟩
  | x :: ps, k, p, s2, h, hd, hh => by
    rw [forF, e_tname, pure_bind]
    have hb : Ok (dBody [.fz .hand, .fz p, .fz x]) (fun o h' => ∃ p', o = .nx [.fz .hand, .fz p', .fz x] ∧ Deep (k + 1) p' ∧ HandOk h') h := by
      unfold dBody
      simp
      refine (draw_ok hh (by omega) (by omega)).bind' fun q h1 ⟨r, e, r0, r1, hh1⟩ => ?_
      subst e
      by_cases c : r = 0
      · simp [c]
        exact ⟨(deep_step hd).1, hh1⟩
      · simp [c]
        exact ⟨(deep_step hd).2, hh1⟩
    refine hb.bind' fun o h1 ⟨p', e, hd', hh1⟩ => ?_
    subst e
    have := deep_loop ps (k + 1) p' (.fz x) h1 hd' hh1
    rw [List.length_cons, show k + (ps.length + 1) = k + 1 + ps.length by omega]
    exact this
theorem deep_ok {h : HS} (hh : HandOk h) : Ok (m__law_deep [.hand]) (fun p h' => Deep 3 p ∧ HandOk h') h := by
  rw [u__law_deep]; unfold b__law_deep
  rw [e_seq]
  try simp [-e_seq]
  refine (some_ok (l := [.str "?", .str "X x"]) hh (by decide) (by decide)).bind' fun t h1 ⟨_, hh1⟩ => ?_
  try simp [-e_seq]
  rw [e_seq]
  try simp [-e_seq]
  refine (draw_ok hh1 (by omega) (by omega)).bind' fun q h2 ⟨r, e, r0, r1, hh2⟩ => ?_
  subst e
  obtain ⟨m, em⟩ : ∃ m : Nat, 5 + r = (m : Int) := ⟨(5 + r).toNat, by omega⟩
  simp [em, -e_seq]
  rw [guard_pos (by omega), pure_bind]
  have key := deep_loop (rng 0 m) 0 t .un h2 trivial hh2
  unfold dBody at key
  refine key.bind' fun o h3 ⟨p', s2', e, hd, hh3⟩ => ?_
  subst e
  have hm : 3 ≤ 0 + (rng 0 m).length := by simp [rng]; omega
  simp
  exact ⟨deep_to hd hm, hh3⟩
def pre0 : SM := (sAsg (gTup (gCons (gTup (gCons (gC (.bl false)) (gCons (gC (.bl true)) (gCons (gC (.bl false)) gNil)))) (gCons (gTup (gCons (gC (.bl false)) (gCons (gC (.bl false)) (gCons (gC (.bl true)) gNil)))) (gCons (gTup (gCons (gC (.bl true)) (gCons (gC (.bl false)) (gCons (gC (.bl false)) gNil)))) gNil)))) (tgName 2))
def pre1 : SM := (sIf (gOrT (gTB (gBin pNe (gB m_kings (gCons (gVar 2) gNil)) (gTup (gCons (gC (.int 0)) (gCons (gC (.int 1)) (gCons (gC (.int 2)) gNil)))))) (gOrT (gTB (gBin pNe (gB m_line_up (gCons (gVar 2) gNil)) (gTup (gCons (gC (.int 0)) (gCons (gC (.int 1)) (gCons (gC (.int 2)) gNil)))))) (gTB (gBin pNe (gB m_kings (gCons (gTup (gCons (gTup (gCons (gC (.bl false)) gNil)) gNil)) gNil)) (gTup (gCons (gC (.int 0)) gNil)))))) (sRet (gC (.bl false))) sNx)
def pre2 : SM := (sIf (gOrT (gTB (gBin pNe (gB m_line_up (gCons (gTup (gCons (gTup (gCons (gC (.bl false)) (gCons (gC (.bl false)) gNil))) (gCons (gTup (gCons (gC (.bl true)) (gCons (gC (.bl false)) gNil))) gNil))) gNil)) (gTup (gCons (gC (.int 1)) (gCons (gC (.int 0)) gNil))))) (gTB (gBin pNe (gB m_kings (gCons (gTup (gCons (gTup (gCons (gC (.bl false)) (gCons (gC (.bl false)) gNil))) (gCons (gTup (gCons (gC (.bl true)) (gCons (gC (.bl false)) gNil))) gNil))) gNil)) (gTup (gCons (gC (.int 1)) gNil))))) (sRet (gC (.bl false))) sNx)
def lap : SM := (sSeq (sIf (gNotT (gTru (gB m__law_is_right (gCons (gB m__law_table (gCons (gVar 1) gNil)) gNil)))) (sRet (gC (.bl false))) sNx)
  (sSeq (sAsg (gLst (gCons (gC .non) (gCons (gTup gNil) (gCons (gTup (gCons (gTup (gCons (gC (.bl true)) gNil)) gNil)) (gCons (gLst (gCons (gTup (gCons (gC (.bl false)) gNil)) gNil)) (gCons (gTup (gCons (gLst (gCons (gC (.bl false)) gNil)) gNil)) (gCons (gTup (gCons (gTup (gCons (gC (.bl false)) (gCons (gC (.bl true)) gNil))) (gCons (gTup (gCons (gC (.bl true)) (gCons (gC (.bl false)) gNil))) gNil))) gNil))))))) (tgName 4))
  (sSeq (sAsg (gBin pAdd (gVarB 4) (gLst (gCons (gTup (gCons (gTup (gCons (gC (.bl false)) (gCons (gC (.bl false)) gNil))) (gCons (gTup (gCons (gC (.bl false)) (gCons (gC (.bl false)) gNil))) gNil))) gNil))) (tgName 4))
  (sSeq (sAsg (gBin pAdd (gVarB 4) (gLst (gCons (gTup (gCons (gTup (gCons (gC (.int 0)) gNil)) gNil)) (gCons (gTup (gCons (gTup (gCons (gC (.bl false)) (gCons (gC (.bl true)) gNil))) gNil)) (gCons (gTup (gCons (gTup (gCons (gC (.str "x")) gNil)) gNil)) (gCons (gC (.int 0)) (gCons (gC (.str "x")) (gCons gNewK (gCons (gBin pRepT (gTup (gCons (gBin pRepT (gTup (gCons (gC (.bl false)) gNil)) (gC (.int 8))) gNil)) (gC (.int 8))) (gCons (gTup (gCons (gTup (gCons (gC .non) gNil)) gNil)) gNil)))))))))) (tgName 4))
  (sSeq (sAsg (gBin pAdd (gVarB 4) (gLst (gCons (gTup (gCons (gTup (gCons (gC (.bl false)) (gCons (gC (.int 1)) gNil))) (gCons (gTup (gCons (gC (.int 0)) (gCons (gC (.bl false)) gNil))) gNil))) gNil))) (tgName 4))
  (sSeq (sAsg (gB m__law_any (gCons (gVar 1) (gCons (gBin pAdd (gVarB 4) (gLst (gCons (gB m__law_deep (gCons (gVar 1) gNil)) gNil))) gNil))) (tgName 5))
  (sSeq (sAsg (gLst (gCons (gWord wm__law_said (gBX mx_kings (gCons (gVar 5) gNil))) (gCons (gWord wm__law_said (gBX mx_line_up (gCons (gVar 5) gNil))) gNil))) (tgName 6))
  (sIf (gTB (gBin pNe (gVarB 6) (gLst (gCons (gC (.str "table")) (gCons (gC (.str "table")) gNil))))) (sRet (gC (.bl false))) sNx))))))))
theorem b_law_is : b_law = sSeq pre0 (sSeq pre1 (sSeq pre2 (sSeq (sFor (iRange (gCons (gC (.int 6)) gNil)) (tgName 3) lap) (sRet (gC (.bl true)))))) := rfl
def Inv (ρ : Ev) (h : HS) : Prop := ∃ s0 s2 s3 s4 s5 s6, ρ = [s0, .fz .hand, s2, s3, s4, s5, s6] ∧ HandOk h
def three : PV := .tup [.tup [.bl false, .bl true, .bl false], .tup [.bl false, .bl false, .bl true], .tup [.bl true, .bl false, .bl false]]
theorem pre0_is {s0 s2 s3 s4 s5 s6 : Slot} : pre0 [s0, .fz .hand, s2, s3, s4, s5, s6] = pure (.nx [s0, .fz .hand, .fz three, s3, s4, s5, s6]) := by kernel_rfl
theorem pre1_is {s0 s3 s4 s5 s6 : Slot} : pre1 [s0, .fz .hand, .fz three, s3, s4, s5, s6] = pure (.nx [s0, .fz .hand, .fz three, s3, s4, s5, s6]) := by kernel_rfl
theorem pre2_is {s0 s2 s3 s4 s5 s6 : Slot} : pre2 [s0, .fz .hand, s2, s3, s4, s5, s6] = pure (.nx [s0, .fz .hand, s2, s3, s4, s5, s6]) := by kernel_rfl
def Inv3 (ρ : Ev) (h : HS) : Prop := ∃ s0 s3 s4 s5 s6, ρ = [s0, .fz .hand, .fz three, s3, s4, s5, s6] ∧ HandOk h
def st0 : SM := (sIf (gNotT (gTru (gB m__law_is_right (gCons (gB m__law_table (gCons (gVar 1) gNil)) gNil)))) (sRet (gC (.bl false))) sNx)
def st1 : SM := (sAsg (gLst (gCons (gC .non) (gCons (gTup gNil) (gCons (gTup (gCons (gTup (gCons (gC (.bl true)) gNil)) gNil)) (gCons (gLst (gCons (gTup (gCons (gC (.bl false)) gNil)) gNil)) (gCons (gTup (gCons (gLst (gCons (gC (.bl false)) gNil)) gNil)) (gCons (gTup (gCons (gTup (gCons (gC (.bl false)) (gCons (gC (.bl true)) gNil))) (gCons (gTup (gCons (gC (.bl true)) (gCons (gC (.bl false)) gNil))) gNil))) gNil))))))) (tgName 4))
def st2 : SM := (sAsg (gBin pAdd (gVarB 4) (gLst (gCons (gTup (gCons (gTup (gCons (gC (.bl false)) (gCons (gC (.bl false)) gNil))) (gCons (gTup (gCons (gC (.bl false)) (gCons (gC (.bl false)) gNil))) gNil))) gNil))) (tgName 4))
def st3 : SM := (sAsg (gBin pAdd (gVarB 4) (gLst (gCons (gTup (gCons (gTup (gCons (gC (.int 0)) gNil)) gNil)) (gCons (gTup (gCons (gTup (gCons (gC (.bl false)) (gCons (gC (.bl true)) gNil))) gNil)) (gCons (gTup (gCons (gTup (gCons (gC (.str "x")) gNil)) gNil)) (gCons (gC (.int 0)) (gCons (gC (.str "x")) (gCons gNewK (gCons (gBin pRepT (gTup (gCons (gBin pRepT (gTup (gCons (gC (.bl false)) gNil)) (gC (.int 8))) gNil)) (gC (.int 8))) (gCons (gTup (gCons (gTup (gCons (gC .non) gNil)) gNil)) gNil)))))))))) (tgName 4))
def st4 : SM := (sAsg (gBin pAdd (gVarB 4) (gLst (gCons (gTup (gCons (gTup (gCons (gC (.bl false)) (gCons (gC (.int 1)) gNil))) (gCons (gTup (gCons (gC (.int 0)) (gCons (gC (.bl false)) gNil))) gNil))) gNil))) (tgName 4))
def st5 : SM := (sAsg (gB m__law_any (gCons (gVar 1) (gCons (gBin pAdd (gVarB 4) (gLst (gCons (gB m__law_deep (gCons (gVar 1) gNil)) gNil))) gNil))) (tgName 5))
def st6 : SM := (sAsg (gLst (gCons (gWord wm__law_said (gBX mx_kings (gCons (gVar 5) gNil))) (gCons (gWord wm__law_said (gBX mx_line_up (gCons (gVar 5) gNil))) gNil))) (tgName 6))
def rs7 : SM := (sIf (gTB (gBin pNe (gVarB 6) (gLst (gCons (gC (.str "table")) (gCons (gC (.str "table")) gNil))))) (sRet (gC (.bl false))) sNx)
def rs6 : SM := sSeq st6 rs7
def rs5 : SM := sSeq st5 rs6
def rs4 : SM := sSeq st4 rs5
def rs3 : SM := sSeq st3 rs4
def rs2 : SM := sSeq st2 rs3
def rs1 : SM := sSeq st1 rs2
def rs0 : SM := sSeq st0 rs1
theorem lap_is : lap = rs0 := rfl
theorem ne_tt : pNe (.lst [.str "table", .str "table"]) (.lst [.str "table", .str "table"]) = pure (.bl false) := by kernel_rfl
theorem st1_is {s0 s2 s3 s4 s5 s6 : Slot} : st1 [s0, .fz .hand, s2, s3, s4, s5, s6] = pure (.nx [s0, .fz .hand, s2, s3, .fz (.lst (noTabL.take 6)), s5, s6]) := by kernel_rfl
theorem st2_is {s0 s2 s3 s5 s6 : Slot} : st2 [s0, .fz .hand, s2, s3, .fz (.lst (noTabL.take 6)), s5, s6] = pure (.nx [s0, .fz .hand, s2, s3, .fz (.lst (noTabL.take 7)), s5, s6]) := by kernel_rfl
theorem st3_is {s0 s2 s3 s5 s6 : Slot} : st3 [s0, .fz .hand, s2, s3, .fz (.lst (noTabL.take 7)), s5, s6] = pure (.nx [s0, .fz .hand, s2, s3, .fz (.lst (noTabL.take 15)), s5, s6]) := by kernel_rfl
theorem st4_is {s0 s2 s3 s5 s6 : Slot} : st4 [s0, .fz .hand, s2, s3, .fz (.lst (noTabL.take 15)), s5, s6] = pure (.nx [s0, .fz .hand, s2, s3, .fz (.lst noTabL), s5, s6]) := by kernel_rfl
theorem lap_ok {p : PV} {ρ : Ev} {h : HS} (hI : Inv ρ h) : Ok (tgName 3 p ρ >>= lap) (fun o h' => ∃ ρ', (o = .nx ρ' ∨ o = .ct ρ') ∧ Inv ρ' h') h := by
  obtain ⟨s0, s2, s3, s4, s5, s6, rfl, hh⟩ := hI
  rw [lap_is, e_tname, pure_bind]
  unfold rs0 st0
  rw [e_seq]
  try simp [-e_seq]
  refine (table_ok hh).bind' fun q h1 ⟨T, e, hT, hh1⟩ => ?_
  subst e
  simp [-e_seq, right_is hT]
  unfold rs1
  rw [e_seq, st1_is, pure_bind]
  unfold rs2
  try simp only []
  rw [e_seq, st2_is, pure_bind]
  unfold rs3
  try simp only []
  rw [e_seq, st3_is, pure_bind]
  unfold rs4
  try simp only []
  rw [e_seq, st4_is, pure_bind]
  unfold rs5 st5
  try simp only []
  rw [e_seq]
  try simp [-e_seq]
  refine (deep_ok hh1).bind' fun d h2 ⟨hd, hh2⟩ => ?_
  try simp [-e_seq]
  have el : noTabL.length = 16 := rfl
  rw [guard_pos (by rw [el]; show 16 + 1 ≤ SZ; rw [SZ_is]; omega), pure_bind]
  refine (some_ok (l := noTabL ++ [d]) hh2 (by simp) (by rw [List.length_append, el]; show 16 + 1 < 1000; omega)).bind' fun q h3 ⟨hq, hh3⟩ => ?_
  have hb : mx_check_table [q] = pure (.inr "NoTable") := by
    rcases List.mem_append.mp hq with z | z
    · exact bad_tab z
    · rw [List.mem_singleton.mp z]; exact bad_deep3 hd
  have t1 := check_kings hb
  have t2 := check_line hb
  unfold rs6 st6
  try simp only []
  try simp [-e_seq]
  rw [e_seq]
  simp [-e_seq, t1, t2, w_tab]
  unfold rs7
  simp [ne_tt]
  exact ⟨_, _, _, _, _, _, rfl, hh3⟩
theorem law_true (ns : List Int) (h : ns.length ≤ 63) : ∃ hs', m_law [.scr ns] [] = .ok (.bl true, hs') := by
  obtain ⟨cs, hc, e⟩ := hand_ok (ns := ns)
  have h0 : b0_law (ev0 7 [.scr ns]) = pure (.nx [.fz (.scr ns), .ow (.lst [.lst (cs.map PV.int), .int 0, .int 0, .int (83 + 5 * cs.length), .int 0]), .un, .un, .un, .un, .un]) := by
    unfold b0_law
    show sOwn _ 1 [.fz (.scr ns), .un, .un, .un, .un, .un, .un] = _
    simp [e]
  refine law_run (b := b_law) h0 rfl rfl ?_
  rw [b_law_is]
  refine ok_seq (P := Inv3) (ok_of_eq pre0_is ⟨_, rfl, _, _, _, _, _, rfl, hand_start cs _ hc⟩) ?_
  rintro _ h1 ⟨s0, s3, s4, s5, s6, rfl, hh⟩
  refine ok_seq (P := Inv) (ok_of_eq pre1_is ⟨_, rfl, _, _, _, _, _, _, rfl, hh⟩) ?_
  rintro _ h2 ⟨s0, s2, s3, s4, s5, s6, rfl, hh⟩
  refine ok_seq (P := Inv) (ok_of_eq pre2_is ⟨_, rfl, _, _, _, _, _, _, rfl, hh⟩) ?_
  rintro _ h3 ⟨s0, s2, s3, s4, s5, s6, rfl, hh⟩
  refine ok_seq (P := Inv) ?_ ?_
  · simp only [e_sfor, e_range, e_cons, e_C, e_nil, pure_bind]
    rw [guard_pos (by decide), pure_bind]
    exact (ok_for (I := Inv) ⟨_, _, _, _, _, _, rfl, hh⟩ fun p _ ρ h hI => lap_ok hI).mono fun o h k => k
  · rintro _ h2 ⟨s0, s2, s3, s4, s5, s6, rfl, hh⟩
    simp
end SLP

end
open PySem PySem.W PyProof.Rows
set_option maxHeartbeats 0 in
theorem PySem.Challenge.cw_siegeworks_k89_whole_kings_of_the_yard_a_holds : PySem.Challenge.rw_siegeworks_k89_whole_kings_of_the_yard_a.Holds := by
  w_on; o_law; k_head; (case hw => w_witness2)
  k_fill
  refine SL.walk_ofG (l := PySem.Challenge.rw_siegeworks_k89_whole_kings_of_the_yard_a) (n := 63) (k := 7) (x := "script") (CX := fun _ => L2.CX0) rfl (by decide) rfl ⟨rfl, by decide, by decide⟩ (fun w h Y => PySem.W.km_in_of Y) ?F (fun _ _ _ _ _ h => h)
  case F =>
    intro w mg fa h Y KX G hmg
    refine' SLP.all_mk KX G hmg SLP.law_true ?nNoTable ?nSiegeError ?bValueError ?babs ?ball ?bany ?bbool ?benumerate ?bint ?bisinstance ?blen ?bmax ?brange ?brepr ?btuple ?cMOST_FIGHTERS ?ais_sized ?lis_sized ?dis_sized ?eis_sized ?acheck_table ?lcheck_table ?dcheck_table ?echeck_table ?ais_king ?lis_king ?dis_king ?eis_king ?akings ?lkings ?dkings ?ekings ?aline_up ?lline_up ?dline_up ?eline_up ?a_law_hand ?l_law_hand ?d_law_hand ?e_law_hand ?a_law_draw ?l_law_draw ?d_law_draw ?e_law_draw ?a_law_any ?l_law_any ?d_law_any ?e_law_any ?a_law_deep ?l_law_deep ?d_law_deep ?e_law_deep ?a_law_said ?l_law_said ?d_law_said ?e_law_said ?a_law_table ?l_law_table ?d_law_table ?e_law_table ?a_law_is_king ?l_law_is_king ?d_law_is_king ?e_law_is_king ?a_law_line ?l_law_line ?d_law_line ?e_law_line ?a_law_is_right ?l_law_is_right ?d_law_is_right ?e_law_is_right ?alaw ?llaw ?dlaw ?elaw ?her ?hev ?qNoTable ?hT ?nT ?hC
    (case nNoTable => k_is)
    (case nSiegeError => k_is)
    (case bValueError => k_is)
    (case babs => k_is)
    (case ball => k_is)
    (case bany => k_is)
    (case bbool => k_is)
    (case benumerate => k_is)
    (case bint => k_is)
    (case bisinstance => k_is)
    (case blen => k_is)
    (case bmax => k_is)
    (case brange => k_is)
    (case brepr => k_is)
    (case btuple => k_is)
    (case cMOST_FIGHTERS => k_is)
    (case ais_sized => k_is)
    (case lis_sized => k_is)
    (case dis_sized => k_is)
    (case eis_sized => k_is)
    (case acheck_table => k_is)
    (case lcheck_table => k_is)
    (case dcheck_table => k_is)
    (case echeck_table => k_is)
    (case ais_king => k_is)
    (case lis_king => k_is)
    (case dis_king => k_is)
    (case eis_king => k_is)
    (case akings => k_is)
    (case lkings => k_is)
    (case dkings => k_is)
    (case ekings => k_is)
    (case aline_up => k_is)
    (case lline_up => k_is)
    (case dline_up => k_is)
    (case eline_up => k_is)
    (case a_law_hand => k_is)
    (case l_law_hand => k_is)
    (case d_law_hand => k_is)
    (case e_law_hand => k_is)
    (case a_law_draw => k_is)
    (case l_law_draw => k_is)
    (case d_law_draw => k_is)
    (case e_law_draw => k_is)
    (case a_law_any => k_is)
    (case l_law_any => k_is)
    (case d_law_any => k_is)
    (case e_law_any => k_is)
    (case a_law_deep => k_is)
    (case l_law_deep => k_is)
    (case d_law_deep => k_is)
    (case e_law_deep => k_is)
    (case a_law_said => k_is)
    (case l_law_said => k_is)
    (case d_law_said => k_is)
    (case e_law_said => k_is)
    (case a_law_table => k_is)
    (case l_law_table => k_is)
    (case d_law_table => k_is)
    (case e_law_table => k_is)
    (case a_law_is_king => k_is)
    (case l_law_is_king => k_is)
    (case d_law_is_king => k_is)
    (case e_law_is_king => k_is)
    (case a_law_line => k_is)
    (case l_law_line => k_is)
    (case d_law_line => k_is)
    (case e_law_line => k_is)
    (case a_law_is_right => k_is)
    (case l_law_is_right => k_is)
    (case d_law_is_right => k_is)
    (case e_law_is_right => k_is)
    (case alaw => k_is)
    (case llaw => k_is)
    (case dlaw => k_is)
    (case elaw => k_is)
    (case her => kernel_rfl)
    (case hev => kernel_rfl)
    (case qNoTable => kernel_rfl)
    (case hT => exact fun p hp => PySem.W.km_tabs_of Y p.2 (by revert p; decide))
    (case nT => exact SL.all_pairs (by kernel_rfl))
    (case hC => exact fun p hp => PySem.W.codeHd_of_K KX (SL.all_pairsB (cs := SLP.cs) (f := fun p => PySem.W.codeHdIn _ p.1 p.2) (by kernel_rfl) p hp))

