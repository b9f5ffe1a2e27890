import PyProof.Rows.All
import HandS.ForMost
import HandS.ForExc
import HandS.TryMany
import HandS.ExcInit
import HandS.Conv
import HandS.TupAny
import HandS.TupMul
import HandS.IsInst
import HandS.Rev
import HandS.RevRange
import HandS.Flow
import HandS.RevTup
import HandS.ExcField
import HandS.Dict
import HandS.TryOnly
import HandS.ListItems
import KE.DatumOrd
import HandS.Text
import KE.SortData
import HandS.MakeKwOnly
import PyProof.StrOps2
import HandS.More
import PyProof.Draws
import PySem.Challenge.RW_sixdot_k01_pieces_of_a_line
set_option Elab.async false
set_option linter.all false
set_option maxRecDepth 100000
set_option maxHeartbeats 4000000
namespace Sy
open PySem PySem.Spec PyProof.Rows L2

/-! ### data -/
inductive Ty where
  | non | bl | int | str | tup | lst
  deriving DecidableEq
def Ty.name : Ty → String
  | .non => "NoneType"
  | .bl => "bool"
  | .int => "int"
  | .str => "str"
  | .tup => "tuple"
  | .lst => "list"
inductive DV where
  | non | bl (b : Bool) | int (i : Int) | str (x : Str) | tup (xs : List DV) | lst (xs : List DV) | scr (xs : List DV) | ty (t : Ty)
  /-- an instance of the class at C; a caught exception at a with its dict at d -/
  | obj (C : Addr) (ns : List Str) (ds : List DV) | xcp (a d : Addr) (ns : List Str) (ds : List DV)
  /-- a dict whose keys are tuples of numbers and texts -/
  | dct (ks : List (List Key)) (ds : List DV)
/-- what a slot holds: shared data, or a list that is its own -/
inductive MV where
  | val (d : DV) | lst (xs : List DV) | obj (C : Addr) (ns : List Str) (ds : List DV)
  /-- a dict of its own; an object of its own whose last field is a dict of its own -/
  | dct (ks : List (List Key)) (ds : List DV) | bo (C : Addr) (ns : List Str) (ds : List DV) (f : Str) (ks : List (List Key)) (es : List DV)
def MV.view : MV → DV
  | .val d => d
  | .lst xs => .lst xs
  | .obj C ns ds => .obj C ns ds
  | .dct ks ds => .dct ks ds
  | .bo C ns ds f ks es => .obj C (ns ++ [f]) (ds ++ [.dct ks es])

mutual
inductive RD (K : PySem.W.Frag) (G : Hp) : DV → V → Prop
  | non : RD K G .non .non
  | bl (b : Bool) : RD K G (.bl b) (.bl b)
  | int (i : Int) : RD K G (.int i) (.int i)
  | str (x : Str) : RD K G (.str x) (.str x)
  | ty (t : Ty) : RD K G (.ty t) (.ty t.name)
  | tup {a : Addr} {vs : List V} {ds : List DV} : G a = some (.tup vs) → RDs K G ds vs → RD K G (.tup ds) (.ref a)
  | lst {a : Addr} {vs : List V} {ds : List DV} : G a = some (.lst vs) → RDs K G ds vs → RD K G (.lst ds) (.ref a)
  /-- the script: locked for good -/
  | scr {a : Addr} {vs : List V} {ds : List DV} : SqL K G a vs → RDs K G ds vs → RD K G (.scr ds) (.ref a)
  | obj {a dx C : Addr} {ns : List Str} {vs : List V} {ds : List DV} : G a = some (.ins C dx (ns.zip vs)) → ns.length = vs.length → RDs K G ds vs → RD K G (.obj C ns ds) (.ref a)
  | xcp {a d : Addr} {ns : List Str} {vs : List V} {ds : List DV} : G d = some (.xd (ns.zip vs)) → ns.length = vs.length → RDs K G ds vs → RD K G (.xcp a d ns ds) (.ref a)
  | dct {a : Addr} {ks : List (List Key)} {vs : List V} {ds : List DV} : G a = some (.dT (ks.zip vs)) → ks.length = vs.length → RDs K G ds vs → RD K G (.dct ks ds) (.ref a)
inductive RDs (K : PySem.W.Frag) (G : Hp) : List DV → List V → Prop
  | nil : RDs K G [] []
  | cons {d : DV} {v : V} {ds : List DV} {vs : List V} : RD K G d v → RDs K G ds vs → RDs K G (d :: ds) (v :: vs)
end

theorem same_sqt {K : PySem.W.Frag} {H H' : Hp} {a : Addr} {xs : List V} (e : Same H H') (h : SqT K H a xs) : SqT K H' a xs := by
  rcases h with (h | ⟨o, h⟩) | h
  · exact .inl (.inl (e _ _ h))
  · exact .inl (.inr ⟨o, e _ _ h⟩)
  · exact .inr h

section
variable {K : PySem.W.Frag} {G G' H H' : Hp}
mutual
theorem RD.mono (s : Same G G') : ∀ (d : DV) (v : V), RD K G d v → RD K G' d v
  | .non, _, h => by cases h; exact .non
  | .bl b, _, h => by cases h; exact .bl b
  | .int b, _, h => by cases h; exact .int b
  | .str b, _, h => by cases h; exact .str b
  | .ty b, _, h => by cases h; exact .ty b
  | .tup ds, _, h => by
    cases h with
    | tup q r => exact .tup (s _ _ q) (RDs.mono s ds _ r)
  | .lst ds, _, h => by
    cases h with
    | lst q r => exact .lst (s _ _ q) (RDs.mono s ds _ r)
  | .scr ds, _, h => by
    cases h with
    | scr q r => exact .scr (s.seq q) (RDs.mono s ds _ r)
  | .obj C ns ds, _, h => by
    cases h with
    | obj q l r => exact .obj (s _ _ q) l (RDs.mono s ds _ r)
  | .xcp a d ns ds, _, h => by
    cases h with
    | xcp q l r => exact .xcp (s _ _ q) l (RDs.mono s ds _ r)
  | .dct ks ds, _, h => by
    cases h with
    | dct q l r => exact .dct (s _ _ q) l (RDs.mono s ds _ r)
theorem RDs.mono (s : Same G G') : ∀ (ds : List DV) (vs : List V), RDs K G ds vs → RDs K G' ds vs
  | [], _, h => by cases h; exact .nil
  | d :: ds, _, h => by
    cases h with
    | cons q r => exact .cons (RD.mono s d _ q) (RDs.mono s ds _ r)
end
theorem RD.up (s : Same G G') {d : DV} {v : V} (h : RD K G d v) : RD K G' d v := RD.mono s d v h
theorem RDs.up (s : Same G G') {d : List DV} {v : List V} (h : RDs K G d v) : RDs K G' d v := RDs.mono s d v h
theorem RDs.length : ∀ {ds : List DV} {vs : List V}, RDs K G ds vs → ds.length = vs.length
  | [], _, h => by cases h; rfl
  | d :: ds, _, h => by
    cases h with
    | cons q r => simp [RDs.length r]
theorem RDs.get : ∀ {ds : List DV} {vs : List V} {i : Nat} {d : DV}, RDs K G ds vs → ds[i]? = some d → ∃ v, vs[i]? = some v ∧ RD K G d v
  | [], _, _, _, _, e => by simp at e
  | d :: ds, _, 0, _, h, e => by
    cases h with
    | cons q r => simp at e; subst e; exact ⟨_, rfl, q⟩
  | d :: ds, _, i + 1, _, h, e => by
    cases h with
    | cons q r =>
      obtain ⟨v, h1, h2⟩ := RDs.get (i := i) r (by simpa using e)
      exact ⟨v, by simpa using h1, h2⟩
theorem RDs.append : ∀ {ds es : List DV} {vs ws : List V}, RDs K G ds vs → RDs K G es ws → RDs K G (ds ++ es) (vs ++ ws)
  | [], _, _, _, h, k => by cases h; exact k
  | d :: ds, _, _, _, h, k => by
    cases h with
    | cons q r => exact .cons q (RDs.append r k)
theorem RDs.take : ∀ (n : Nat) {ds : List DV} {vs : List V}, RDs K G ds vs → RDs K G (ds.take n) (vs.take n)
  | 0, _, _, _ => by simp; exact .nil
  | n + 1, [], _, h => by cases h; exact .nil
  | n + 1, d :: ds, _, h => by
    cases h with
    | cons q r => exact .cons q (RDs.take n r)
theorem RDs.drop : ∀ (n : Nat) {ds : List DV} {vs : List V}, RDs K G ds vs → RDs K G (ds.drop n) (vs.drop n)
  | 0, _, _, h => by simpa using h
  | n + 1, [], _, h => by cases h; exact .nil
  | n + 1, d :: ds, _, h => by
    cases h with
    | cons q r => exact RDs.drop n r
theorem RDs.reverse : ∀ {ds : List DV} {vs : List V}, RDs K G ds vs → RDs K G ds.reverse vs.reverse
  | [], _, h => by cases h; exact .nil
  | d :: ds, _, h => by
    cases h with
    | cons q r => rw [List.reverse_cons, List.reverse_cons]; exact RDs.append (RDs.reverse r) (.cons q .nil)
theorem RDs.rep : ∀ {ds : List DV} {vs : List V} (k : Nat), RDs K G ds vs → RDs K G (List.replicate k ds).flatten (List.replicate k vs).flatten
  | _, _, 0, _ => by simpa using RDs.nil
  | _, _, k + 1, h => by
    rw [List.replicate_succ, List.replicate_succ, List.flatten_cons, List.flatten_cons]
    exact RDs.append h (RDs.rep k h)
theorem RDs.set {d : DV} {v : V} (q : RD K G d v) : ∀ {ds : List DV} {vs : List V} (i : Nat), RDs K G ds vs → RDs K G (ds.set i d) (vs.set i v)
  | [], _, _, h => by cases h; exact .nil
  | _ :: _, _, 0, h => by
    cases h with
    | cons _ r => exact .cons q r
  | _ :: _, _, i + 1, h => by
    cases h with
    | cons p r => exact .cons p (RDs.set q i r)
theorem RDs.dropLast : ∀ {ds : List DV} {vs : List V}, RDs K G ds vs → RDs K G ds.dropLast vs.dropLast := fun {ds vs} h => by
  rw [List.dropLast_eq_take, List.dropLast_eq_take, RDs.length h]
  exact RDs.take _ h
theorem RDs.erase : ∀ {ds : List DV} {vs : List V} (i : Nat), RDs K G ds vs → RDs K G (ds.eraseIdx i) (vs.eraseIdx i)
  | [], _, _, h => by cases h; exact .nil
  | _ :: _, _, 0, h => by
    cases h with
    | cons _ r => exact r
  | _ :: _, _, i + 1, h => by
    cases h with
    | cons p r => exact .cons p (RDs.erase i r)
end

/-! ### owned places are hidden from shared data -/
open Classical in
noncomputable def hid (H : Hp) (P : Addr → Prop) : Hp := fun a => if P a then none else H a
theorem hid_some {H : Hp} {P : Addr → Prop} {a : Addr} {o : HO} : hid H P a = some o ↔ ¬ P a ∧ H a = some o := by
  unfold hid
  by_cases h : P a
  · simp [h]
  · simp [h]
theorem hid_same {H : Hp} {P : Addr → Prop} : Same (hid H P) H := fun a o h => (hid_some.mp h).2

inductive RM (K : PySem.W.Frag) (G H : Hp) : MV → V → List Addr → Prop
  | val {d : DV} {v : V} : RD K G d v → RM K G H (.val d) v []
  | lst {a : Addr} {vs : List V} {ds : List DV} : H a = some (.lst vs) → RDs K G ds vs → RM K G H (.lst ds) (.ref a) [a]
  | obj {a dx C : Addr} {ns : List Str} {vs : List V} {ds : List DV} : H a = some (.ins C dx (ns.zip vs)) → ns.length = vs.length → RDs K G ds vs → RM K G H (.obj C ns ds) (.ref a) [a]
  | dct {a : Addr} {ks : List (List Key)} {vs : List V} {ds : List DV} : H a = some (.dT (ks.zip vs)) → ks.length = vs.length → RDs K G ds vs → RM K G H (.dct ks ds) (.ref a) [a]
  | bo {a b dx C : Addr} {ns : List Str} {vs : List V} {ds : List DV} {f : Str} {ks : List (List Key)} {ws : List V} {es : List DV} : H a = some (.ins C dx ((ns ++ [f]).zip (vs ++ [.ref b]))) → ns.length = vs.length → RDs K G ds vs →
    H b = some (.dT (ks.zip ws)) → ks.length = ws.length → RDs K G es ws → RM K G H (.bo C ns ds f ks es) (.ref a) [a, b]
/-- fields: those that are dicts are not told -/
inductive RDos (K : PySem.W.Frag) (G : Hp) : List DV → List V → Prop
  | nil : RDos K G [] []
  | dct {ks : List (List Key)} {es : List DV} {v : V} {ds : List DV} {vs : List V} : RDos K G ds vs → RDos K G (.dct ks es :: ds) (v :: vs)
  | cons {d : DV} {v : V} {ds : List DV} {vs : List V} : RD K G d v → RDos K G ds vs → RDos K G (d :: ds) (v :: vs)
theorem RDs.toOs {K : PySem.W.Frag} {G : Hp} : ∀ {ds : List DV} {vs : List V}, RDs K G ds vs → RDos K G ds vs
  | [], _, h => by cases h; exact .nil
  | d :: ds, _, h => by
    cases h with
    | cons q r => exact .cons q (RDs.toOs r)
theorem RDos.app {K : PySem.W.Frag} {G : Hp} {es : List DV} {ws : List V} (k : RDos K G es ws) : ∀ {ds : List DV} {vs : List V}, RDos K G ds vs → RDos K G (ds ++ es) (vs ++ ws)
  | [], _, h => by cases h; exact k
  | d :: ds, _, h => by
    cases h with
    | cons q r => exact .cons q (RDos.app k r)
    | dct r => exact .dct (RDos.app k r)
/-- to be read -/
inductive RW (K : PySem.W.Frag) (G H : Hp) : DV → V → Prop
  | rd {d : DV} {v : V} : RD K G d v → RW K G H d v
  | own {a : Addr} {vs : List V} {ds : List DV} : H a = some (.lst vs) → RDs K G ds vs → RW K G H (.lst ds) (.ref a)
  | owo {a dx C : Addr} {ns : List Str} {vs : List V} {ds : List DV} : H a = some (.ins C dx (ns.zip vs)) → ns.length = vs.length → RDs K G ds vs → RW K G H (.obj C ns ds) (.ref a)
  | owd {a : Addr} {ks : List (List Key)} {vs : List V} {ds : List DV} : H a = some (.dT (ks.zip vs)) → ks.length = vs.length → RDs K G ds vs → RW K G H (.dct ks ds) (.ref a)
  | owb {a dx C : Addr} {ns : List Str} {vs : List V} {ds : List DV} : H a = some (.ins C dx (ns.zip vs)) → ns.length = vs.length → RDos K G ds vs → RW K G H (.obj C ns ds) (.ref a)
section
variable {K : PySem.W.Frag} {G G' H H' : Hp} {m : MV} {d : DV} {v : V} {f : List Addr} {ds : List DV}
theorem RM.mono (s : Same G G') (h : ∀ a ∈ f, ∀ o, H a = some o → H' a = some o) (r : RM K G H m v f) : RM K G' H' m v f := by
  cases r with
  | val q => exact .val (q.up s)
  | lst e q => exact .lst (h _ (by simp) _ e) (q.up s)
  | obj e l q => exact .obj (h _ (by simp) _ e) l (q.up s)
  | dct e l q => exact .dct (h _ (by simp) _ e) l (q.up s)
  | bo e l q e2 l2 q2 => exact .bo (h _ (by simp) _ e) l (q.up s) (h _ (by simp) _ e2) l2 (q2.up s)
theorem RM.alive (r : RM K G H m v f) {a : Addr} (ha : a ∈ f) : ∃ o, H a = some o := by
  cases r with
  | val q => simp at ha
  | lst e q => simp at ha; subst ha; exact ⟨_, e⟩
  | obj e l q => simp at ha; subst ha; exact ⟨_, e⟩
  | dct e l q => simp at ha; subst ha; exact ⟨_, e⟩
  | bo e l q e2 l2 q2 =>
    simp at ha
    rcases ha with rfl | rfl
    · exact ⟨_, e⟩
    · exact ⟨_, e2⟩
theorem RM.toW (r : RM K G H m v f) : RW K G H m.view v := by
  cases r with
  | val q => exact .rd q
  | lst e q => exact .own e q
  | obj e l q => exact .owo e l q
  | dct e l q => exact .owd e l q
  | bo e l q e2 l2 q2 => exact .owb e (by simp [l]) (RDos.app (.dct .nil) q.toOs)
theorem RM.frz (s : Same G G') (h : ∀ a ∈ f, ∀ o, H a = some o → G' a = some o) (r : RM K G H m v f) : RD K G' m.view v := by
  cases r with
  | val q => exact q.up s
  | lst e q => exact .lst (h _ (by simp) _ e) (q.up s)
  | obj e l q => exact .obj (h _ (by simp) _ e) l (q.up s)
  | dct e l q => exact .dct (h _ (by simp) _ e) l (q.up s)
  | bo e l q e2 l2 q2 => exact .obj (h _ (by simp) _ e) (by simp [l]) ((q.up s).append (.cons (.dct (h _ (by simp) _ e2) l2 (q2.up s)) .nil))
theorem RDos.up {K : PySem.W.Frag} {G G' : Hp} (s : Same G G') : ∀ {ds : List DV} {vs : List V}, RDos K G ds vs → RDos K G' ds vs
  | [], _, h => by cases h; exact .nil
  | d :: ds, _, h => by
    cases h with
    | cons q r => exact .cons (q.up s) (RDos.up s r)
    | dct r => exact .dct (RDos.up s r)
theorem RW.mono (s : Same G G') (h : Same H H') (r : RW K G H d v) : RW K G' H' d v := by
  cases r with
  | rd q => exact .rd (q.up s)
  | own e q => exact .own (h _ _ e) (q.up s)
  | owo e l q => exact .owo (h _ _ e) l (q.up s)
  | owd e l q => exact .owd (h _ _ e) l (q.up s)
  | owb e l q => exact .owb (h _ _ e) l (q.up s)
theorem rw_int {i : Int} (r : RW K G H (.int i) v) : v = .int i := by
  cases r with | rd q => cases q; rfl
theorem rw_str {i : Str} (r : RW K G H (.str i) v) : v = .str i := by
  cases r with | rd q => cases q; rfl
theorem rw_bl {i : Bool} (r : RW K G H (.bl i) v) : v = .bl i := by
  cases r with | rd q => cases q; rfl
theorem rw_non (r : RW K G H .non v) : v = .non := by
  cases r with | rd q => cases q; rfl
theorem rw_tup (s : Same G H) (r : RW K G H (.tup ds) v) : ∃ a vs, v = .ref a ∧ SqT K G a vs ∧ SqT K H a vs ∧ RDs K G ds vs := by
  cases r with | rd q => cases q with | tup q r => exact ⟨_, _, rfl, SqT.of q, SqT.of (s _ _ q), r⟩
theorem rw_tupP (s : Same G H) (r : RW K G H (.tup ds) v) : ∃ a vs, v = .ref a ∧ G a = some (.tup vs) ∧ H a = some (.tup vs) ∧ RDs K G ds vs := by
  cases r with | rd q => cases q with | tup q r => exact ⟨_, _, rfl, q, s _ _ q, r⟩
theorem rw_lst (s : Same G H) (r : RW K G H (.lst ds) v) : ∃ a vs, v = .ref a ∧ H a = some (.lst vs) ∧ RDs K G ds vs := by
  cases r with
  | rd q => cases q with | lst q r => exact ⟨_, _, rfl, s _ _ q, r⟩
  | own e q => exact ⟨_, _, rfl, e, q⟩
theorem rw_obj {C : Addr} {ns : List Str} (s : Same G H) (r : RW K G H (.obj C ns ds) v) : ∃ a dx vs, v = .ref a ∧ H a = some (.ins C dx (ns.zip vs)) ∧ ns.length = vs.length ∧ RDos K G ds vs := by
  cases r with
  | rd q => cases q with | obj q l r => exact ⟨_, _, _, rfl, s _ _ q, l, r.toOs⟩
  | owo e l q => exact ⟨_, _, _, rfl, e, l, q.toOs⟩
  | owb e l q => exact ⟨_, _, _, rfl, e, l, q⟩
theorem rw_dct {ks : List (List Key)} (s : Same G H) (r : RW K G H (.dct ks ds) v) : ∃ a vs, v = .ref a ∧ H a = some (.dT (ks.zip vs)) ∧ ks.length = vs.length ∧ RDs K G ds vs := by
  cases r with
  | rd q => cases q with | dct q l r => exact ⟨_, _, rfl, s _ _ q, l, r⟩
  | owd e l q => exact ⟨_, _, rfl, e, l, q⟩
theorem rw_scr (s : Same G H) (r : RW K G H (.scr ds) v) : ∃ a vs, v = .ref a ∧ SqL K H a vs ∧ RDs K G ds vs := by
  cases r with
  | rd q => cases q with | scr q r => exact ⟨_, _, rfl, s.seq q, r⟩
end

/-! ### the state -/
abbrev Sl := List (Option MV)
abbrev Own := Nat → List Addr
def own (O : Addr → Prop) (W : Own) : Addr → Prop := fun a => O a ∨ ∃ i, a ∈ W i
noncomputable abbrev gr (O : Addr → Prop) (W : Own) (H : Hp) : Hp := hid H (own O W)
def setW (W : Own) (i : Nat) (f : List Addr) : Own := fun j => if j = i then f else W j
structure Sim (K : PySem.W.Frag) (O : Addr → Prop) (W : Own) (sl : Sl) (σ : L2.St) (H : Hp) : Prop where
  at_ : ∀ (i : Nat) (m : MV), sl[i]? = some (some m) → ∃ v, σ[i]? = some (some v) ∧ RM K (gr O W H) H m v (W i)
  no : ∀ i : Nat, (∀ m, sl[i]? ≠ some (some m)) → W i = []
  inj : ∀ i j a, a ∈ W i → a ∈ W j → i = j
  dis : ∀ i a, a ∈ W i → ¬ O a
  al : ∀ a, O a → ∃ o, H a = some o
  len : sl.length = σ.length
/-- from (W, H) to (W', H'), with new places f -/
structure Tr (W : Own) (H : Hp) (W' : Own) (f : Addr → Prop) (H' : Hp) : Prop where
  keep : ∀ a o, H a = some o → (∀ i, a ∉ W i) → H' a = some o
  new : ∀ i a, a ∈ W' i → (∃ j, a ∈ W j) ∨ H a = none
  newf : ∀ a, f a → (∃ j, a ∈ W j) ∨ H a = none
abbrev nof : Addr → Prop := fun _ => False

section
variable {K : PySem.W.Frag} {O O' : Addr → Prop} {W W' W1 W2 : Own} {sl sl' : Sl} {σ : L2.St} {H H' H1 H2 : Hp} {f f1 f2 : Addr → Prop} {i : Nat} {m : MV} {v : V}
theorem Tr.refl : Tr W H W nof H := ⟨fun _ _ h _ => h, fun i a h => .inl ⟨i, h⟩, fun _ h => h.elim⟩
theorem Tr.dead (t : Tr W H W1 f1 H1) {a : Addr} (h : H1 a = none) : (∃ j, a ∈ W j) ∨ H a = none := by
  cases e : H a with
  | none => exact .inr rfl
  | some o =>
    by_cases h2 : ∃ j, a ∈ W j
    · exact .inl h2
    · have := t.keep a o e (fun j hj => h2 ⟨j, hj⟩)
      rw [h] at this; cases this
theorem Tr.back (t : Tr W H W1 f1 H1) {a : Addr} (h : (∃ j, a ∈ W1 j) ∨ H1 a = none) : (∃ j, a ∈ W j) ∨ H a = none := by
  rcases h with ⟨j, h⟩ | h
  · exact t.new j a h
  · exact t.dead h
theorem Tr.trans (t : Tr W H W1 f1 H1) (u : Tr W1 H1 W2 f2 H2) : Tr W H W2 f2 H2 where
  keep := fun a o h hn => u.keep a o (t.keep a o h hn) fun i hi => by
    rcases t.new i a hi with ⟨j, hj⟩ | e
    · exact hn j hj
    · rw [h] at e; cases e
  new := fun i a h => t.back (u.new i a h)
  newf := fun a h => t.back (u.newf a h)
theorem Tr.trans2 (t : Tr W H W1 f1 H1) (u : Tr W1 H1 W2 f2 H2) : Tr W H W2 (fun a => f1 a ∨ f2 a) H2 where
  keep := (t.trans u).keep
  new := (t.trans u).new
  newf := fun a h => h.elim (t.newf a) fun h => (t.trans u).newf a h
theorem Tr.drop (t : Tr W H W1 f1 H1) : Tr W H W1 nof H1 := ⟨t.keep, t.new, fun _ h => h.elim⟩
theorem Tr.less (t : Tr W H W1 f1 H1) (h : ∀ a, f2 a → f1 a) : Tr W H W1 f2 H1 := ⟨t.keep, t.new, fun a x => t.newf a (h a x)⟩
theorem Tr.ofSame (s : Same H H') (h : ∀ a, f a → H a = none) : Tr W H W f H' := ⟨fun a o e _ => s a o e, fun i a h => .inl ⟨i, h⟩, fun a x => .inr (h a x)⟩

theorem own_mono (h : ∀ a, O' a → O a) (h2 : ∀ i a, a ∈ W' i → ∃ j, a ∈ W j) {a : Addr} (x : own O' W' a) : own O W a := by
  rcases x with x | ⟨i, x⟩
  · exact .inl (h a x)
  · exact .inr (h2 i a x)
theorem Sim.alive (s : Sim K O W sl σ H) {i : Nat} {a : Addr} (h : a ∈ W i) : ∃ o, H a = some o := by
  by_cases e : ∃ m, sl[i]? = some (some m)
  · obtain ⟨m, e⟩ := e
    obtain ⟨v, _, r⟩ := s.at_ i m e
    exact r.alive h
  · rw [s.no i (fun m hm => e ⟨m, hm⟩)] at h
    simp at h
theorem Sim.ownAlive (s : Sim K O W sl σ H) {a : Addr} (h : own O W a) : ∃ o, H a = some o := by
  rcases h with h | ⟨i, h⟩
  · exact s.al a h
  · exact s.alive h
/-- the heap has grown; other places may have come (new ones) or gone -/
theorem gr_same (s : Same H H') (ho : ∀ a, O' a → O a ∨ H a = none) : Same (gr O W H) (gr O' W H') := fun a o h => by
  obtain ⟨h1, h2⟩ := hid_some.mp h
  refine hid_some.mpr ⟨fun x => ?_, s a o h2⟩
  rcases x with x | x
  · rcases ho a x with y | y
    · exact h1 (.inl y)
    · rw [h2] at y; cases y
  · exact h1 (.inr x)
theorem Sim.grow (x : Sim K O W sl σ H) (s : Same H H') (ho : ∀ a, O' a → O a ∨ H a = none) (hl : ∀ a, O' a → ∃ o, H' a = some o) : Sim K O' W sl σ H' where
  at_ := fun i m e => by
    obtain ⟨v, e1, r⟩ := x.at_ i m e
    exact ⟨v, e1, r.mono (gr_same s ho) fun a _ o h => s a o h⟩
  no := x.no
  inj := x.inj
  dis := fun i a h h2 => by
    rcases ho a h2 with y | y
    · exact x.dis i a h y
    · obtain ⟨o, e⟩ := x.alive h
      rw [e] at y; cases y
  al := hl
  len := x.len
theorem Sim.less (x : Sim K O W sl σ H) (ho : ∀ a, O' a → O a) : Sim K O' W sl σ H :=
  x.grow (Same.refl H) (fun a h => .inl (ho a h)) fun a h => x.al a (ho a h)
theorem Sim.get (x : Sim K O W sl σ H) (e : sl[i]? = some (some m)) : ∃ v, σ[i]? = some (some v) ∧ RM K (gr O W H) H m v (W i) := x.at_ i m e
theorem Sim.getv (x : Sim K O W sl σ H) (e : sl[i]? = some (some m)) (ev : σ[i]? = some (some v)) : RM K (gr O W H) H m v (W i) := by
  obtain ⟨v', e1, r⟩ := x.at_ i m e
  rw [ev] at e1; cases e1; exact r
theorem Sim.lt (x : Sim K O W sl σ H) (e : sl[i]? = some (some m)) : i < σ.length := by
  rw [← x.len]
  exact (List.getElem?_eq_some_iff.mp e).1

/-- a slot gets what stood apart (f), or shared data (f = []) -/
theorem Sim.put {fl : List Addr} (x : Sim K (fun a => O a ∨ a ∈ fl) W sl σ H) (hi : i < sl.length) (r : RM K (gr (fun a => O a ∨ a ∈ fl) W H) H m v fl) (hd : ∀ a ∈ fl, ¬ O a) :
    Sim K O (setW W i fl) (sl.set i (some m)) (σ.set i (some v)) H := by
  have hs : Same (gr (fun a => O a ∨ a ∈ fl) W H) (gr O (setW W i fl) H) := fun a o h => by
    obtain ⟨h1, h2⟩ := hid_some.mp h
    refine hid_some.mpr ⟨fun y => h1 ?_, h2⟩
    rcases y with y | ⟨j, y⟩
    · exact .inl (.inl y)
    · unfold setW at y
      by_cases e : j = i
      · rw [if_pos e] at y; exact .inl (.inr y)
      · rw [if_neg e] at y; exact .inr ⟨j, y⟩
  refine ⟨fun j m' e => ?_, fun j h => ?_, fun j k a h1 h2 => ?_, fun j a h => ?_, fun a h => x.al a (.inl h), by simpa using x.len⟩
  · by_cases hj : j = i
    · subst hj
      rw [List.getElem?_set_self hi] at e
      cases e
      refine ⟨v, List.getElem?_set_self (by rw [← x.len]; exact hi), ?_⟩
      have : setW W j fl j = fl := by simp [setW]
      rw [this]
      exact r.mono hs fun _ _ _ h => h
    · rw [List.getElem?_set_ne (Ne.symm hj)] at e
      obtain ⟨v', e1, r'⟩ := x.at_ j m' e
      refine ⟨v', by rw [List.getElem?_set_ne (Ne.symm hj)]; exact e1, ?_⟩
      have : setW W i fl j = W j := by simp [setW, hj]
      rw [this]
      exact r'.mono hs fun _ _ _ h => h
  · by_cases hj : j = i
    · subst hj
      exact absurd (List.getElem?_set_self hi) (h m)
    · simp only [setW, hj, if_false]
      exact x.no j fun m' e => h m' (by rw [List.getElem?_set_ne (Ne.symm hj)]; exact e)
  · unfold setW at h1 h2
    by_cases e1 : j = i
    · by_cases e2 : k = i
      · rw [e1, e2]
      · rw [if_pos e1] at h1
        rw [if_neg e2] at h2
        exact absurd (Or.inr h1) (x.dis k a h2)
    · by_cases e2 : k = i
      · rw [if_pos e2] at h2
        rw [if_neg e1] at h1
        exact absurd (Or.inr h2) (x.dis j a h1)
      · rw [if_neg e1] at h1
        rw [if_neg e2] at h2
        exact x.inj j k a h1 h2
  · unfold setW at h
    by_cases e : j = i
    · rw [if_pos e] at h; exact hd a h
    · rw [if_neg e] at h
      exact fun y => x.dis j a h (.inl y)
theorem tr_setW {fl : List Addr} (h : Tr W H W1 f1 H1) (hf : ∀ a ∈ fl, f1 a ∨ (∃ j, a ∈ W1 j)) : Tr W H (setW W1 i fl) nof H1 := by
  refine ⟨h.keep, fun j a x => ?_, fun _ z => z.elim⟩
  unfold setW at x
  by_cases e : j = i
  · rw [if_pos e] at x
    rcases hf a x with y | ⟨k, y⟩
    · exact h.newf a y
    · exact h.new k a y
  · rw [if_neg e] at x; exact h.new j a x
/-- a slot's own thing is shared from now on -/
theorem Sim.frz (x : Sim K O W sl σ H) (e : sl[i]? = some (some m)) : Sim K O (setW W i []) (sl.set i (some (.val m.view))) σ H := by
  obtain ⟨v, ev, r⟩ := x.get e
  have hi : i < sl.length := (List.getElem?_eq_some_iff.mp e).1
  have hs : Same (gr O W H) (gr O (setW W i []) H) := fun a o h => by
    obtain ⟨h1, h2⟩ := hid_some.mp h
    refine hid_some.mpr ⟨fun y => h1 ?_, h2⟩
    rcases y with y | ⟨j, y⟩
    · exact .inl y
    · unfold setW at y
      by_cases e : j = i
      · rw [if_pos e] at y; simp at y
      · rw [if_neg e] at y; exact .inr ⟨j, y⟩
  have rd : RD K (gr O (setW W i []) H) m.view v := r.frz hs fun a ha o h => hid_some.mpr ⟨fun y => by
    rcases y with y | ⟨j, y⟩
    · exact x.dis i a ha y
    · unfold setW at y
      by_cases e : j = i
      · rw [if_pos e] at y; simp at y
      · rw [if_neg e] at y; exact e (x.inj j i a y ha), h⟩
  refine ⟨fun j m' e' => ?_, fun j h => ?_, fun j k a h1 h2 => ?_, fun j a h => ?_, x.al, by simpa using x.len⟩
  · by_cases hj : j = i
    · subst hj
      rw [List.getElem?_set_self hi] at e'
      cases e'
      refine ⟨v, ev, ?_⟩
      have : setW W j [] j = [] := by simp [setW]
      rw [this]
      exact .val rd
    · rw [List.getElem?_set_ne (Ne.symm hj)] at e'
      obtain ⟨v', e1, r'⟩ := x.at_ j m' e'
      refine ⟨v', e1, ?_⟩
      have : setW W i [] j = W j := by simp [setW, hj]
      rw [this]
      exact r'.mono hs fun _ _ _ h => h
  · by_cases hj : j = i
    · simp [setW, hj]
    · simp only [setW, hj, if_false]
      exact x.no j fun m' e => h m' (by rw [List.getElem?_set_ne (Ne.symm hj)]; exact e)
  · unfold setW at h1 h2
    by_cases e1 : j = i
    · rw [if_pos e1] at h1; simp at h1
    · by_cases e2 : k = i
      · rw [if_pos e2] at h2; simp at h2
      · rw [if_neg e1] at h1; rw [if_neg e2] at h2; exact x.inj j k a h1 h2
  · unfold setW at h
    by_cases e : j = i
    · rw [if_pos e] at h; simp at h
    · rw [if_neg e] at h; exact x.dis j a h
theorem tr_frz (h : Tr W H W1 f1 H1) : Tr W H (setW W1 i []) f1 H1 := by
  refine ⟨h.keep, fun j a x => ?_, h.newf⟩
  unfold setW at x
  by_cases e : j = i
  · rw [if_pos e] at x; simp at x
  · rw [if_neg e] at x; exact h.new j a x
/-- a slot's own list is changed -/
theorem Sim.mut {ds es : List DV} {a : Addr} {vs : List V} (x : Sim K O W sl σ H) (e : sl[i]? = some (some (.lst ds))) (ev : σ[i]? = some (some (.ref a))) (r : RDs K (gr O W H) es vs) :
    Sim K O W (sl.set i (some (.lst es))) σ (upd H a (.lst vs)) ∧ Tr W H W nof (upd H a (.lst vs)) := by
  have hi : i < sl.length := (List.getElem?_eq_some_iff.mp e).1
  have r0 := x.getv e ev
  obtain ⟨hW, hH⟩ : W i = [a] ∧ ∃ ws, H a = some (.lst ws) := by
    generalize hw : W i = w at r0
    cases r0 with
    | lst h q => exact ⟨rfl, _, h⟩
  have ha : a ∈ W i := by rw [hW]; simp
  have hs : Same (gr O W H) (gr O W (upd H a (.lst vs))) := fun b o h => by
    obtain ⟨h1, h2⟩ := hid_some.mp h
    refine hid_some.mpr ⟨h1, ?_⟩
    rw [upd_ne (show b ≠ a from fun z => h1 (.inr ⟨i, by rw [z]; exact ha⟩))]
    exact h2
  refine ⟨⟨fun j m' e' => ?_, fun j h => ?_, x.inj, x.dis, fun b h => ?_, by simpa using x.len⟩, ⟨fun b o h hn => ?_, fun j b h => .inl ⟨j, h⟩, fun _ h => h.elim⟩⟩
  · by_cases hj : j = i
    · subst hj
      rw [List.getElem?_set_self hi] at e'
      cases e'
      refine ⟨_, ev, ?_⟩
      rw [hW]
      exact .lst upd_same (r.up hs)
    · rw [List.getElem?_set_ne (Ne.symm hj)] at e'
      obtain ⟨v', e1, r'⟩ := x.at_ j m' e'
      refine ⟨v', e1, r'.mono hs fun b hb o h => ?_⟩
      rw [upd_ne (show b ≠ a from fun z => hj (x.inj j i b hb (by rw [z]; exact ha)))]
      exact h
  · by_cases hj : j = i
    · subst hj
      exact absurd (List.getElem?_set_self hi) (h _)
    · exact x.no j fun m' e => h m' (by rw [List.getElem?_set_ne (Ne.symm hj)]; exact e)
  · obtain ⟨o, h'⟩ := x.al b h
    refine ⟨o, ?_⟩
    rw [upd_ne (show b ≠ a from fun z => x.dis i a ha (by rw [← z]; exact h))]
    exact h'
  · rw [upd_ne (show b ≠ a from fun z => hn i (by rw [z]; exact ha))]
    exact h
/-- a slot's own object is changed -/
theorem Sim.mutO {C dx : Addr} {ns ns' : List Str} {ds es : List DV} {a : Addr} {vs vs0 : List V} (x : Sim K O W sl σ H) (e : sl[i]? = some (some (.obj C ns ds))) (ev : σ[i]? = some (some (.ref a))) (e0 : H a = some (.ins C dx (ns.zip vs0))) (l : ns'.length = vs.length) (r : RDs K (gr O W H) es vs) :
    Sim K O W (sl.set i (some (.obj C ns' es))) σ (upd H a (.ins C dx (ns'.zip vs))) ∧ Tr W H W nof (upd H a (.ins C dx (ns'.zip vs))) := by
  have hi : i < sl.length := (List.getElem?_eq_some_iff.mp e).1
  have r0 := x.getv e ev
  have hW : W i = [a] := by
    generalize hw : W i = w at r0
    cases r0 with
    | obj h q => rfl
  have ha : a ∈ W i := by rw [hW]; simp
  have hs : Same (gr O W H) (gr O W (upd H a (.ins C dx (ns'.zip vs)))) := fun b o h => by
    obtain ⟨h1, h2⟩ := hid_some.mp h
    refine hid_some.mpr ⟨h1, ?_⟩
    rw [upd_ne (show b ≠ a from fun z => h1 (.inr ⟨i, by rw [z]; exact ha⟩))]
    exact h2
  refine ⟨⟨fun j m' e' => ?_, fun j h => ?_, x.inj, x.dis, fun b h => ?_, by simpa using x.len⟩, ⟨fun b o h hn => ?_, fun j b h => .inl ⟨j, h⟩, fun _ h => h.elim⟩⟩
  · by_cases hj : j = i
    · subst hj
      rw [List.getElem?_set_self hi] at e'
      cases e'
      refine ⟨_, ev, ?_⟩
      rw [hW]
      exact .obj upd_same l (r.up hs)
    · rw [List.getElem?_set_ne (Ne.symm hj)] at e'
      obtain ⟨v', e1, r'⟩ := x.at_ j m' e'
      refine ⟨v', e1, r'.mono hs fun b hb o h => ?_⟩
      rw [upd_ne (show b ≠ a from fun z => hj (x.inj j i b hb (by rw [z]; exact ha)))]
      exact h
  · by_cases hj : j = i
    · subst hj
      exact absurd (List.getElem?_set_self hi) (h _)
    · exact x.no j fun m' e => h m' (by rw [List.getElem?_set_ne (Ne.symm hj)]; exact e)
  · obtain ⟨o, h'⟩ := x.al b h
    refine ⟨o, ?_⟩
    rw [upd_ne (show b ≠ a from fun z => x.dis i a ha (by rw [← z]; exact h))]
    exact h'
  · rw [upd_ne (show b ≠ a from fun z => hn i (by rw [z]; exact ha))]
    exact h
end
end Sy
namespace Sy
open PySem PySem.Spec PyProof.Rows L2

inductive Op where
  | tmp (m : MV) | pl (i : Nat)
/-- an exception of the class at cls, its fields -/
structure Exc where
  cls : Addr
  ns : List Str
  ds : List DV
inductive Res (α : Type) where
  | ok (a : α) (sl : Sl) | exc (x : Exc) (sl : Sl) | stuck
def Res.bind {α β : Type} (r : Res α) (f : α → Sl → Res β) : Res β := match r with
  | .ok a sl => f a sl
  | .exc x sl => .exc x sl
  | .stuck => .stuck
@[simp] theorem Res.bind_ok {α β : Type} {a : α} {sl : Sl} {f : α → Sl → Res β} : (Res.ok a sl).bind f = f a sl := rfl
@[simp] theorem Res.bind_exc {α β : Type} {a : Exc} {sl : Sl} {f : α → Sl → Res β} : (Res.exc a sl).bind f = .exc a sl := rfl
@[simp] theorem Res.bind_stuck {α β : Type} {f : α → Sl → Res β} : (Res.stuck : Res α).bind f = .stuck := rfl
abbrev EM := Sl → Res Op
abbrev AM := Sl → Res (List Op)
abbrev TM := Sl → Res Bool
def Op.cont (o : Op) (sl : Sl) : Option MV := match o with
  | .tmp m => some m
  | .pl i => sl[i]?.join
/-- what is made of an optional result -/
def fin (m : Option MV) (sl : Sl) : Res Op := match m with
  | some m => .ok (.tmp m) sl
  | none => .stuck
@[simp] theorem fin_some {m : MV} {sl : Sl} : fin (some m) sl = .ok (.tmp m) sl := rfl
def Op.view (o : Op) (sl : Sl) : Option DV := (o.cont sl).map MV.view

inductive ROp (K : PySem.W.Frag) (G H : Hp) (σ : L2.St) : Op → V → List Addr → Prop
  | tmp {m : MV} {v : V} {f : List Addr} : RM K G H m v f → ROp K G H σ (.tmp m) v f
  | pl {i : Nat} {v : V} : σ[i]? = some (some v) → ROp K G H σ (.pl i) v []

abbrev plus (O : Addr → Prop) (f : List Addr) : Addr → Prop := fun a => O a ∨ a ∈ f
def tE (K : PySem.W.Frag) (m : EM) : TE := fun σ H Q => ∃ O W sl, Sim K O W sl σ H ∧ match m sl with
  | .ok o sl' => ∀ (W' : Own) (f : List Addr) (v : V) (H' : Hp), Tr W H W' (· ∈ f) H' → Sim K (plus O f) W' sl' σ H' → ROp K (gr (plus O f) W' H') H' σ o v f → (∀ a ∈ f, ¬ O a) → Q v H'
  | _ => False
def tT (K : PySem.W.Frag) (m : TM) : TT := fun σ H Q => ∃ O W sl, Sim K O W sl σ H ∧ match m sl with
  | .ok b sl' => ∀ (W' : Own) (H' : Hp), Tr W H W' nof H' → Sim K O W' sl' σ H' → Q b H'
  | _ => False
abbrev SE (X : Cx) (e : Expr) (m : EM) : Prop := PE X e (tE X.K m)
abbrev ST (X : Cx) (e : Expr) (m : TM) : Prop := PT X e (tT X.K m)
abbrev SW (X : Cx) (e : Expr) (m : TM) : Prop := PW X e (tT X.K m)

theorem _root_.L2.PE.imp {X : Cx} {e : Expr} {t t' : TE} (h : PE X e t) (i : ∀ σ H Q, t' σ H Q → t σ H Q) : PE X e t' := ⟨fun pins s σ H Q I q => h.run pins s σ H Q I (i σ H Q q)⟩
theorem _root_.L2.PT.imp {X : Cx} {e : Expr} {t t' : TT} (h : PT X e t) (i : ∀ σ H Q, t' σ H Q → t σ H Q) : PT X e t' := ⟨fun pins s σ H Q I q => h.run pins s σ H Q I (i σ H Q q)⟩
theorem _root_.L2.PW.imp {X : Cx} {e : Expr} {t t' : TT} (h : PW X e t) (i : ∀ σ H Q, t' σ H Q → t σ H Q) : PW X e t' := ⟨fun w pins s σ H Q I q => h.run w pins s σ H Q I (i σ H Q q)⟩
theorem _root_.L2.PA.imp {X : Cx} {e : List Expr} {t t' : TA} (h : PA X e t) (i : ∀ σ H Q, t' σ H Q → t σ H Q) : PA X e t' := ⟨fun p pins s σ H Q I q => h.run p pins s σ H Q I (i σ H Q q)⟩
theorem _root_.L2.PS.imp {X : Cx} {e : Stmt} {t t' : TS} (h : PS X e t) (i : ∀ D σ H, t' D σ H → t D σ H) : PS X e t' := ⟨fun pins s σ H D I q => h.run pins s σ H D I (i D σ H q)⟩
theorem _root_.L2.PSs.imp {X : Cx} {e : List Stmt} {t t' : TS} (h : PSs X e t) (i : ∀ D σ H, t' D σ H → t D σ H) : PSs X e t' := ⟨fun pins s σ H D I q => h.run pins s σ H D I (i D σ H q)⟩

section
variable {K : PySem.W.Frag} {O O2 : Addr → Prop} {W W2 W1 W' : Own} {sl sl1 sl2 : Sl} {σ : L2.St} {H H' H1 H2 : Hp} {f0 : Addr → Prop} {f fr : List Addr} {m : MV} {v : V} {o : Op}

theorem hid_less {P P' : Addr → Prop} (h : ∀ a, P' a → P a) : Same (hid H P) (hid H P') := fun a o e => by
  obtain ⟨h1, h2⟩ := hid_some.mp e
  exact hid_some.mpr ⟨fun x => h1 (h a x), h2⟩
theorem gr_tr (t : Tr W H W1 f0 H1) {O1 : Addr → Prop} (hO : ∀ a, O1 a → O a ∨ f0 a) : Same (gr O W H) (gr O1 W1 H1) := fun a o e => by
  obtain ⟨h1, h2⟩ := hid_some.mp e
  have hn : ∀ i, a ∉ W i := fun i hi => h1 (.inr ⟨i, hi⟩)
  refine hid_some.mpr ⟨fun x => ?_, t.keep a o h2 hn⟩
  rcases x with x | ⟨i, x⟩
  · rcases hO a x with y | y
    · exact h1 (.inl y)
    · rcases t.newf a y with ⟨j, hj⟩ | z
      · exact hn j hj
      · rw [h2] at z; cases z
  · rcases t.new i a x with ⟨j, hj⟩ | z
    · exact hn j hj
    · rw [h2] at z; cases z
/-- what stood apart stands on -/
theorem ROp.up {O1 : Addr → Prop} (r : ROp K (gr O W H) H σ o v f) (x : Sim K O W sl σ H) (hf : ∀ a ∈ f, O a) (t : Tr W H W1 f0 H1) (hO : ∀ a, O1 a → O a ∨ f0 a) : ROp K (gr O1 W1 H1) H1 σ o v f := by
  cases r with
  | tmp r => exact .tmp (r.mono (gr_tr t hO) fun a ha ob e => t.keep a ob e fun i hi => x.dis i a hi (hf a ha))
  | pl e => exact .pl e
theorem ROp.toW (r : ROp K (gr O W H) H σ o v f) (x : Sim K O W sl σ H) (c : o.cont sl = some m) : RW K (gr O W H) H m.view v := by
  cases r with
  | tmp r => cases c; exact r.toW
  | @pl i _ e =>
    have c' : sl[i]? = some (some m) := by
      simp only [Op.cont] at c
      cases h : sl[i]? with
      | none => rw [h] at c; simp at c
      | some y => rw [h] at c; simp at c; rw [c]
    exact (x.getv c' e).toW
theorem ROp.toW' {d : DV} (r : ROp K (gr O W H) H σ o v f) (x : Sim K O W sl σ H) (c : o.view sl = some d) : RW K (gr O W H) H d v := by
  unfold Op.view at c
  cases e : o.cont sl with
  | none => rw [e] at c; simp at c
  | some m =>
    rw [e] at c
    simp at c
    subst c
    exact r.toW x e
theorem fin_tmp (t : Tr W H W2 f0 H2) (x : Sim K O2 W2 sl2 σ H2) (hO : ∀ a, O a → O2 a) (s : Same H2 H') (hf : ∀ a ∈ fr, H2 a = none) (rm : RM K (hid H' (fun a => own O2 W2 a ∨ a ∈ fr)) H' m v fr) :
    Tr W H W2 (· ∈ fr) H' ∧ Sim K (plus O fr) W2 sl2 σ H' ∧ ROp K (gr (plus O fr) W2 H') H' σ (.tmp m) v fr ∧ ∀ a ∈ fr, ¬ O a := by
  refine ⟨t.trans (Tr.ofSame s hf), x.grow s (fun a h => ?_) (fun a h => ?_), .tmp (rm.mono (hid_less fun a h => ?_) fun _ _ _ h => h), fun a h h2 => ?_⟩
  · exact h.elim (fun h => .inl (hO a h)) fun h => .inr (hf a h)
  · rcases h with h | h
    · obtain ⟨ob, e⟩ := x.al a (hO a h)
      exact ⟨ob, s a ob e⟩
    · exact rm.alive h
  · rcases h with (h | h) | h
    · exact .inl (.inl (hO a h))
    · exact .inr h
    · exact .inl (.inr h)
  · obtain ⟨ob, e⟩ := x.al a (hO a h2)
    rw [hf a h] at e; cases e
end

/-! ### builtins by values -/
/-- what a new value may be -/
def New (K : PySem.W.Frag) (P : Addr → Prop) (H : Hp) (m : MV) (Q : VK) : Prop := ∀ v H' fr, Same H H' → (∀ a ∈ fr, H a = none) → RM K (hid H' (fun a => P a ∨ a ∈ fr)) H' m v fr → Q v H'
def Alv (P : Addr → Prop) (H : Hp) : Prop := ∀ a, P a → ∃ o, H a = some o
def B1 (K : PySem.W.Frag) (r : V → Hp → VK → Prop) (f : DV → Option MV) : Prop := ∀ (P : Addr → Prop) (H : Hp) (x : V) (d : DV) (m : MV) (Q : VK), f d = some m → Alv P H → RW K (hid H P) H d x → New K P H m Q → r x H Q
def B2 (K : PySem.W.Frag) (r : R2) (f : DV → DV → Option MV) : Prop := ∀ (P : Addr → Prop) (H : Hp) (x y : V) (d e : DV) (m : MV) (Q : VK), f d e = some m → Alv P H → RW K (hid H P) H d x → RW K (hid H P) H e y → New K P H m Q → r x y H Q
/-- arguments -/
inductive RWs (K : PySem.W.Frag) (G H : Hp) : List DV → List V → Prop
  | nil : RWs K G H [] []
  | cons {d : DV} {v : V} {ds : List DV} {vs : List V} : RW K G H d v → RWs K G H ds vs → RWs K G H (d :: ds) (v :: vs)
def BL (K : PySem.W.Frag) (r : List V → Hp → VK → Prop) (f : List DV → Option MV) : Prop := ∀ (P : Addr → Prop) (H : Hp) (xs : List V) (ds : List DV) (m : MV) (Q : VK), f ds = some m → Alv P H → RWs K (hid H P) H ds xs → New K P H m Q → r xs H Q

def E.c (d : DV) : EM := fun sl => .ok (.tmp (.val d)) sl
def E.var (i : Nat) : EM := fun sl => match sl[i]? with
  | some (some _) => .ok (.pl i) sl
  | _ => .stuck
def E.un (f : DV → Option MV) (a : EM) : EM := fun sl => (a sl).bind fun o sl => match o.view sl with
  | some d => fin (f d) sl
  | none => .stuck
def E.bin (f : DV → DV → Option MV) (a b : EM) : EM := fun sl => (a sl).bind fun o sl => (b sl).bind fun p sl => match o.view sl, p.view sl with
  | some d, some e => fin (f d e) sl
  | _, _ => .stuck
def A.nil : AM := fun sl => .ok [] sl
def A.cons (a : EM) (r : AM) : AM := fun sl => (a sl).bind fun o sl => (r sl).bind fun os sl => .ok (o :: os) sl
def views (sl : Sl) : List Op → Option (List DV)
  | [] => some []
  | o :: os => match o.view sl, views sl os with
    | some d, some ds => some (d :: ds)
    | _, _ => none
def E.app (f : List DV → Option MV) (as : AM) : EM := fun sl => (as sl).bind fun os sl => match views sl os with
  | some ds => fin (f ds) sl
  | none => .stuck

theorem bind_ok {α β : Type} {r : Res α} {f : α → Sl → Res β} {b : β} {sl : Sl} (h : r.bind f = .ok b sl) : ∃ a s, r = .ok a s ∧ f a s = .ok b sl := by
  cases r with
  | ok a s => exact ⟨a, s, rfl, h⟩
  | exc _ _ => cases h
  | stuck => cases h
theorem fin_ok {m : Option MV} {sl sl' : Sl} {o : Op} (h : fin m sl = .ok o sl') : ∃ m', m = some m' ∧ o = .tmp m' ∧ sl' = sl := by
  cases m with
  | none => cases h
  | some m => cases h; exact ⟨m, rfl, rfl, rfl⟩
/-- only the good end counts -/
theorem tE_of {K : PySem.W.Frag} {m : EM} {σ : L2.St} {H : Hp} {Q : VK} (h : tE K m σ H Q) : ∃ O W sl o sl', Sim K O W sl σ H ∧ m sl = .ok o sl' ∧
    ∀ (W' : Own) (f : List Addr) (v : V) (H' : Hp), Tr W H W' (· ∈ f) H' → Sim K (plus O f) W' sl' σ H' → ROp K (gr (plus O f) W' H') H' σ o v f → (∀ a ∈ f, ¬ O a) → Q v H' := by
  obtain ⟨O, W, sl, x, q⟩ := h
  cases e : m sl with
  | ok o sl' => rw [e] at q; exact ⟨O, W, sl, o, sl', x, e, q⟩
  | exc _ _ => rw [e] at q; exact q.elim
  | stuck => rw [e] at q; exact q.elim
theorem tT_of {K : PySem.W.Frag} {m : TM} {σ : L2.St} {H : Hp} {Q : Bool → Hp → Prop} (h : tT K m σ H Q) : ∃ O W sl b sl', Sim K O W sl σ H ∧ m sl = .ok b sl' ∧
    ∀ (W' : Own) (H' : Hp), Tr W H W' nof H' → Sim K O W' sl' σ H' → Q b H' := by
  obtain ⟨O, W, sl, x, q⟩ := h
  cases e : m sl with
  | ok o sl' => rw [e] at q; exact ⟨O, W, sl, o, sl', x, e, q⟩
  | exc _ _ => rw [e] at q; exact q.elim
  | stuck => rw [e] at q; exact q.elim
theorem tE_mk {K : PySem.W.Frag} {m : EM} {σ : L2.St} {H : Hp} {Q : VK} {O W sl o sl'} (x : Sim K O W sl σ H) (e : m sl = .ok o sl')
    (q : ∀ (W' : Own) (f : List Addr) (v : V) (H' : Hp), Tr W H W' (· ∈ f) H' → Sim K (plus O f) W' sl' σ H' → ROp K (gr (plus O f) W' H') H' σ o v f → (∀ a ∈ f, ¬ O a) → Q v H') : tE K m σ H Q := by
  refine ⟨O, W, sl, x, ?_⟩
  rw [e]
  exact q
theorem tT_mk {K : PySem.W.Frag} {m : TM} {σ : L2.St} {H : Hp} {Q : Bool → Hp → Prop} {O W sl b sl'} (x : Sim K O W sl σ H) (e : m sl = .ok b sl')
    (q : ∀ (W' : Own) (H' : Hp), Tr W H W' nof H' → Sim K O W' sl' σ H' → Q b H') : tT K m σ H Q := by
  refine ⟨O, W, sl, x, ?_⟩
  rw [e]
  exact q

section
variable {K : PySem.W.Frag} {σ : L2.St} {H : Hp} {Q : VK} {a b ma mb : EM} {r : R2}
theorem hasv {o : Op} {sl sl' : Sl} {k : DV → Res Op} {x : Op} (h : (match o.view sl with | some d => k d | none => .stuck) = .ok x sl') : ∃ d, o.view sl = some d ∧ k d = .ok x sl' := by
  cases e : o.view sl with
  | none => rw [e] at h; cases h
  | some d => rw [e] at h; exact ⟨d, rfl, h⟩
theorem hasv2 {o p : Op} {sl sl' : Sl} {k : DV → DV → Res Op} {x : Op} (h : (match o.view sl, p.view sl with | some d, some e => k d e | _, _ => .stuck) = .ok x sl') : ∃ d e, o.view sl = some d ∧ p.view sl = some e ∧ k d e = .ok x sl' := by
  cases e : o.view sl with
  | none => rw [e] at h; cases h
  | some d =>
    cases e2 : p.view sl with
    | none => rw [e, e2] at h; cases h
    | some d2 => rw [e, e2] at h; exact ⟨d, d2, rfl, rfl, h⟩
theorem un_imp {r : V → Hp → VK → Prop} {f : DV → Option MV} (h : B1 K r f) (q : tE K (E.un f ma) σ H Q) : tUn r (tE K ma) σ H Q := by
  obtain ⟨O, W, sl, o, sl', x, e, q⟩ := tE_of q
  obtain ⟨o1, s1, e1, e2⟩ := bind_ok e
  obtain ⟨d, ed, e3⟩ := hasv e2
  obtain ⟨m, em, rfl, rfl⟩ := fin_ok e3
  refine tE_mk x e1 fun W1 f1 v H1 t1 x1 r1 n1 => ?_
  refine h (own (plus O f1) W1) H1 v d m Q em (fun a => x1.ownAlive) (r1.toW' x1 ed) fun v' H' fr s hf rm => ?_
  obtain ⟨y1, y2, y3, y4⟩ := fin_tmp t1 x1 (fun a h => Or.inl h) s hf rm
  exact q W1 fr v' H' y1 y2 y3 y4
theorem bin_imp {f : DV → DV → Option MV} (h : B2 K r f) (q : tE K (E.bin f ma mb) σ H Q) : tOp r (tE K ma) (tE K mb) σ H Q := by
  obtain ⟨O, W, sl, o, sl', x, e, q⟩ := tE_of q
  obtain ⟨o1, s1, e1, e2⟩ := bind_ok e
  obtain ⟨o2, s2, e2, e3⟩ := bind_ok e2
  obtain ⟨d1, d2, ed1, ed2, e3⟩ := hasv2 e3
  obtain ⟨m, em, rfl, rfl⟩ := fin_ok e3
  refine tE_mk x e1 fun W1 f1 v1 H1 t1 x1 r1 n1 => ?_
  refine tE_mk x1 e2 fun W2 f2 v2 H2 t2 x2 r2 n2 => ?_
  have r1' := r1.up x1 (fun a h => Or.inr h) t2 (O1 := plus (plus O f1) f2) (fun a h => h)
  refine h (own (plus (plus O f1) f2) W2) H2 v1 v2 d1 d2 m Q em (fun a => x2.ownAlive) (r1'.toW' x2 ed1) (r2.toW' x2 ed2) fun v' H' fr s hf rm => ?_
  obtain ⟨y1, y2, y3, y4⟩ := fin_tmp (t1.trans t2) x2 (fun a h => Or.inl (Or.inl h)) s hf rm
  exact q W2 fr v' H' y1 y2 y3 y4
end

/-! ### argument lists -/
structure ROps (K : PySem.W.Frag) (G H : Hp) (σ : L2.St) (os : List Op) (vs : List V) (F : Own) : Prop where
  len : os.length = vs.length
  at_ : ∀ (j : Nat) (o : Op), os[j]? = some o → ∃ v, vs[j]? = some v ∧ ROp K G H σ o v (F j)
  no : ∀ j : Nat, os.length ≤ j → F j = []
  inj : ∀ i j a, a ∈ F i → a ∈ F j → i = j
abbrev plusF (O : Addr → Prop) (F : Own) : Addr → Prop := fun a => O a ∨ ∃ j, a ∈ F j
def tAs (K : PySem.W.Frag) (m : AM) : TA := fun σ H Q => ∃ O W sl, Sim K O W sl σ H ∧ match m sl with
  | .ok os sl' => ∀ (W' : Own) (F : Own) (vs : List V) (H' : Hp), Tr W H W' (fun a => ∃ j, a ∈ F j) H' → Sim K (plusF O F) W' sl' σ H' → ROps K (gr (plusF O F) W' H') H' σ os vs F → (∀ j, ∀ a ∈ F j, ¬ O a) → Q vs H'
  | _ => False
abbrev SA (X : Cx) (es : List Expr) (m : AM) : Prop := PA X es (tAs X.K m)
theorem tAs_of {K : PySem.W.Frag} {m : AM} {σ : L2.St} {H : Hp} {Q : List V → Hp → Prop} (h : tAs K m σ H Q) : ∃ O W sl os sl', Sim K O W sl σ H ∧ m sl = .ok os sl' ∧
    ∀ (W' : Own) (F : Own) (vs : List V) (H' : Hp), Tr W H W' (fun a => ∃ j, a ∈ F j) H' → Sim K (plusF O F) W' sl' σ H' → ROps K (gr (plusF O F) W' H') H' σ os vs F → (∀ j, ∀ a ∈ F j, ¬ O a) → Q vs H' := by
  obtain ⟨O, W, sl, x, q⟩ := h
  cases e : m sl with
  | ok o sl' => rw [e] at q; exact ⟨O, W, sl, o, sl', x, e, q⟩
  | exc _ _ => rw [e] at q; exact q.elim
  | stuck => rw [e] at q; exact q.elim
theorem tAs_mk {K : PySem.W.Frag} {m : AM} {σ : L2.St} {H : Hp} {Q : List V → Hp → Prop} {O W sl os sl'} (x : Sim K O W sl σ H) (e : m sl = .ok os sl')
    (q : ∀ (W' : Own) (F : Own) (vs : List V) (H' : Hp), Tr W H W' (fun a => ∃ j, a ∈ F j) H' → Sim K (plusF O F) W' sl' σ H' → ROps K (gr (plusF O F) W' H') H' σ os vs F → (∀ j, ∀ a ∈ F j, ¬ O a) → Q vs H') : tAs K m σ H Q := by
  refine ⟨O, W, sl, x, ?_⟩
  rw [e]
  exact q
def noF : Own := fun _ => []
def consF (f : List Addr) (F : Own) : Own := fun j => match j with
  | 0 => f
  | j + 1 => F j
section
variable {X : Cx} {K : PySem.W.Frag} {O : Addr → Prop} {W : Own} {sl sl1 sl2 : Sl} {σ : L2.St} {H H' : Hp} {f : List Addr} {F : Own} {m : MV} {v : V} {o : Op} {os : List Op} {vs : List V}
theorem sa_nil : SA X [] A.nil := pa_nil.imp fun σ H Q q => by
  obtain ⟨O, W, sl, os, sl', x, e, q⟩ := tAs_of q
  cases e
  exact q W noF [] H ⟨fun _ _ h _ => h, fun i a h => .inl ⟨i, h⟩, fun a ⟨j, h⟩ => by simp [noF] at h⟩
    (x.less fun a h => h.elim id fun ⟨j, h⟩ => by simp [noF] at h) ⟨rfl, fun j o h => by simp at h, fun _ _ => rfl, fun i j a h => by simp [noF] at h⟩ fun j a h => by simp [noF] at h
theorem cons_imp {ma : EM} {mr : AM} {Q : List V → Hp → Prop} (q : tAs K (A.cons ma mr) σ H Q) : tE K ma σ H fun x H1 => tAs K mr σ H1 fun xs H2 => Q (x :: xs) H2 := by
  obtain ⟨O, W, sl, os, sl', x, e, q⟩ := tAs_of q
  obtain ⟨o1, s1, e1, e2⟩ := bind_ok e
  obtain ⟨os2, s2, e2, e3⟩ := bind_ok e2
  cases e3
  refine tE_mk x e1 fun W1 f1 v1 H1 t1 x1 r1 n1 => ?_
  refine tAs_mk x1 e2 fun W2 F2 vs2 H2 t2 x2 r2 n2 => ?_
  have r1' := r1.up x1 (fun a h => Or.inr h) t2 (O1 := plusF (plus O f1) F2) (fun a h => h)
  have hO : ∀ a, plusF O (consF f1 F2) a → plusF (plus O f1) F2 a := fun a h => by
    rcases h with h | ⟨j, h⟩
    · exact .inl (.inl h)
    · cases j with
      | zero => exact .inl (.inr h)
      | succ j => exact .inr ⟨j, h⟩
  have hO2 : ∀ a, plusF (plus O f1) F2 a → plusF O (consF f1 F2) a := fun a h => by
    rcases h with (h | h) | ⟨j, h⟩
    · exact .inl h
    · exact .inr ⟨0, h⟩
    · exact .inr ⟨j + 1, h⟩
  have hG : Same (gr (plusF (plus O f1) F2) W2 H2) (gr (plusF O (consF f1 F2)) W2 H2) := hid_less fun a h => h.elim (fun h => .inl (hO a h)) .inr
  refine q W2 (consF f1 F2) (v1 :: vs2) H2 ?_ (x2.less hO) ⟨by simp [r2.len], fun j o h => ?_, fun j h => ?_, fun i j a h1 h2 => ?_⟩ fun j a h => ?_
  · refine (t1.trans2 t2).less fun a ⟨j, h⟩ => ?_
    cases j with
    | zero => exact .inl h
    | succ j => exact .inr ⟨j, h⟩
  · cases j with
    | zero =>
      simp at h; subst h
      refine ⟨v1, rfl, ?_⟩
      cases r1' with
      | tmp r => exact .tmp (r.mono hG fun _ _ _ h => h)
      | pl e => exact .pl e
    | succ j =>
      obtain ⟨v, ev, r⟩ := r2.at_ j o (by simpa using h)
      refine ⟨v, by simpa using ev, ?_⟩
      show ROp _ _ _ _ _ _ (F2 j)
      generalize F2 j = fj at r
      cases r with
      | tmp r => exact .tmp (r.mono hG fun _ _ _ h => h)
      | pl e => exact .pl e
  · cases j with
    | zero => simp at h
    | succ j => exact r2.no j (by simpa using h)
  · cases i with
    | zero =>
      cases j with
      | zero => rfl
      | succ j => exact absurd (Or.inr h1) (n2 j a h2)
    | succ i =>
      cases j with
      | zero => exact absurd (Or.inr h2) (n2 i a h1)
      | succ j => rw [r2.inj i j a h1 h2]
  · cases j with
    | zero => exact n1 a h
    | succ j => exact fun z => n2 j a h (.inl z)
theorem sa_cons {e : Expr} {es : List Expr} {ma : EM} {mr : AM} (ha : SE X e ma) (hr : SA X es mr) (hs : starEach (e :: es) X.env = (false, eval e X.env) :: starEach es X.env := by rfl) : SA X (e :: es) (A.cons ma mr) :=
  (pa_cons ha hr hs).imp fun σ H Q q => cons_imp q
theorem ROps.tail {G : Hp} (r : ROps K G H σ (o :: os) vs F) : ∃ v r', vs = v :: r' ∧ ROp K G H σ o v (F 0) ∧ ROps K G H σ os r' (fun j => F (j + 1)) := by
  cases vs with
  | nil => have := r.len; simp at this
  | cons v r' =>
    obtain ⟨v', e, q⟩ := r.at_ 0 o rfl
    simp at e; subst e
    refine ⟨v, r', rfl, q, by simpa using r.len, fun j p h => ?_, fun j h => r.no (j + 1) (by simpa using h), fun i j a h1 h2 => ?_⟩
    · obtain ⟨w, e, q⟩ := r.at_ (j + 1) p (by simpa using h)
      exact ⟨w, by simpa using e, q⟩
    · have := r.inj (i + 1) (j + 1) a h1 h2
      omega
theorem ROps.toWs {ds : List DV} (x : Sim K O W sl σ H) : ∀ {os : List Op} {vs : List V} {F : Own} {ds : List DV}, ROps K (gr O W H) H σ os vs F → views sl os = some ds → RWs K (gr O W H) H ds vs
  | [], vs, F, ds, r, e => by
    have := r.len
    simp at this
    have hv : vs = [] := List.eq_nil_of_length_eq_zero this.symm
    subst hv
    simp [views] at e
    subst e
    exact .nil
  | o :: os, vs, F, ds, r, e => by
    obtain ⟨v, r', rfl, q, rt⟩ := r.tail
    unfold views at e
    cases e1 : o.view sl with
    | none => rw [e1] at e; simp at e
    | some d =>
      cases e2 : views sl os with
      | none => rw [e1, e2] at e; simp at e
      | some ds2 =>
        rw [e1, e2] at e
        simp at e
        subst e
        exact .cons (q.toW' x e1) (ROps.toWs (ds := ds) x rt e2)
theorem app_imp {r : List V → Hp → VK → Prop} {f : List DV → Option MV} {ms : AM} {Q : VK} (h : BL K r f) (q : tE K (E.app f ms) σ H Q) : tCB r (tAs K ms) σ H Q := by
  obtain ⟨O, W, sl, o, sl', x, e, q⟩ := tE_of q
  obtain ⟨os, s1, e1, e2⟩ := bind_ok e
  have : ∃ ds, views s1 os = some ds ∧ fin (f ds) s1 = .ok o sl' := by
    cases e3 : views s1 os with
    | none => rw [e3] at e2; cases e2
    | some ds => rw [e3] at e2; exact ⟨ds, rfl, e2⟩
  obtain ⟨ds, ed, e3⟩ := this
  obtain ⟨m, em, rfl, rfl⟩ := fin_ok e3
  refine tAs_mk x e1 fun W1 F1 vs H1 t1 x1 r1 n1 => ?_
  refine h (own (plusF O F1) W1) H1 vs ds m Q em (fun a => x1.ownAlive) (ROps.toWs (ds := ds) x1 r1 ed) fun v' H' fr s hf rm => ?_
  obtain ⟨y1, y2, y3, y4⟩ := fin_tmp t1 x1 (fun a h => Or.inl h) s hf rm
  exact q W1 fr v' H' y1 y2 y3 y4
end
end Sy
namespace Sy
open PySem PySem.Spec PyProof.Rows L2

/-! ### names, constants -/
section
variable {X : Cx} {K : PySem.W.Frag} {O : Addr → Prop} {W : Own} {sl sl' : Sl} {σ : L2.St} {H H' : Hp} {a b c : Expr} {ma mb mc : EM} {pos : Pos}
theorem se_var (i : Nat) {x : Str} (hN : X.N[i]? = some x := by rfl) (hv : Vis X.env.scope x := by first | exact Or.inl rfl | exact Or.inr (Or.inl rfl) | exact Or.inr (Or.inr rfl)) (hd : (x == ("__debug__" : Str)) = false := by decide)
    (hcd : (x == ("__classdict__" : Str)) = false := by decide) : SE X (.Name x pos) (E.var i) := (pv i hN hv hd hcd).imp fun σ H Q q => by
  obtain ⟨O, W, sl, o, sl', x, e, q⟩ := tE_of q
  unfold E.var at e
  cases h : sl[i]? with
  | none => rw [h] at e; cases e
  | some y =>
    cases y with
    | none => rw [h] at e; cases e
    | some m =>
      rw [h] at e
      cases e
      obtain ⟨v, ev, r⟩ := x.get h
      exact ⟨v, ev, q W [] v H ⟨fun _ _ h _ => h, fun i a h => .inl ⟨i, h⟩, fun a h => by simp at h⟩ (x.less fun a h => h.elim id fun h => by simp at h) (.pl ev) (fun a h => by simp at h)⟩
theorem c_imp {d : DV} {v : V} (h : ∀ G, RD K G d v) {Q : VK} (q : tE K (E.c d) σ H Q) : tC v σ H Q := by
  obtain ⟨O, W, sl, o, sl', x, e, q⟩ := tE_of q
  cases e
  exact q W [] v H ⟨fun _ _ h _ => h, fun i a h => .inl ⟨i, h⟩, fun a h => by simp at h⟩ (x.less fun a h => h.elim id fun h => by simp at h) (.tmp (.val (h _))) (fun a h => by simp at h)
theorem se_int {i : Int} {j} : SE X (.Constant (.int i) j pos) (E.c (.int i)) := pe_int.imp fun σ H Q q => c_imp (fun _ => .int i) q
theorem se_bl {i : Bool} {j} : SE X (.Constant (.bool i) j pos) (E.c (.bl i)) := pe_bl.imp fun σ H Q q => c_imp (fun _ => .bl i) q
theorem se_non {j} : SE X (.Constant .none j pos) (E.c .non) := pe_non.imp fun σ H Q q => c_imp (fun _ => .non) q
theorem se_str {i : Str} {j} : SE X (.Constant (.str i) j pos) (E.c (.str i)) := pe_str.imp fun σ H Q q => c_imp (fun _ => .str i) q
/-- a built-in type's name -/
theorem se_ty {x : Str} (t : Ty) (hm : X.mg x = none) (hv : bootBuiltins x = some (.type t.name) := by decide +kernel) (hg : Gl X x := by rfl) (hn : x ≠ "__name__" := by decide) (hd : (x == ("__debug__" : Str)) = false := by decide) : SE X (.Name x pos) (E.c (.ty t)) :=
  (pe_bltn (v := .ty t.name) hg hm hv rfl hn hd).imp fun σ H Q q => c_imp (fun _ => .ty t) q
/-- a module's constant -/
theorem se_glob {x : Str} {d : DV} {v : V} {u : Value} (hm : X.mg x = some u) (r : RelV v u) (h : ∀ G, RD X.K G d v) (hg : Gl X x := by rfl) (hd : (x == ("__debug__" : Str)) = false := by decide) : SE X (.Name x pos) (E.c d) :=
  (pe_glob hg hm r hd).imp fun σ H Q q => c_imp h q

/-! ### operators -/
theorem se_bin {op : Operator} {r : R2} {f : DV → DV → Option MV} (ho : OpR X (binaryOp op) r) (h : B2 X.K r f) (ha : SE X a ma) (hb : SE X b mb) : SE X (.BinOp a op b pos) (E.bin f ma mb) := (pe_op ho ha hb).imp fun σ H Q q => bin_imp h q
theorem se_un {op : UnaryOp} {r : V → Hp → VK → Prop} {f : DV → Option MV} (ho : UnR X (unaryOp op) r) (h : B1 X.K r f) (ha : SE X a ma) : SE X (.UnaryOp op a pos) (E.un f ma) := (pe_un ho ha).imp fun σ H Q q => un_imp h q
theorem se_cmp {op : CmpOp} {r : R2} {f : DV → DV → Option MV} (ho : OpR X (compareOp op) r) (h : B2 X.K r f) (ha : SE X a ma) (hb : SE X b mb) (hm : behindInMarks op b = false := by first | exact nomark _ | rfl) : SE X (.Compare a [op] [b] pos) (E.bin f ma mb) :=
  (pe_cmpR ho ha hb hm).imp fun σ H Q q => bin_imp h q
theorem se_ix {r : R2} {f : DV → DV → Option MV} (ho : IxR X r) (h : B2 X.K r f) (ha : SE X a ma) (hb : SE X b mb) (hs : PlainIx b := by exact fun _ _ => rfl) : SE X (.Subscript a b pos) (E.bin f ma mb) := (pe_ix ho ha hb hs).imp fun σ H Q q => bin_imp h q
theorem se_callB {x : Str} {id : String} {r : List V → Hp → VK → Prop} {f : List DV → Option MV} {p : Pos} {e : Expr} {es : List Expr} {ms : AM} (hm : X.mg x = none) (hc : CallR X (.builtin id) r) (h : BL X.K r f) (ha : SA X (e :: es) ms)
    (hv : bootBuiltins x = some (.builtin id) := by decide +kernel) (hg : Gl X x := by rfl) (hn : x ≠ "__name__" := by decide) (hd : (x == ("__debug__" : Str)) = false := by decide) (he : starEach (e :: es) X.env = (false, eval e X.env) :: starEach es X.env := by rfl) (hpl : (backTo pos (starEach es X.env)).any (·.1) = false := by rfl) :
    SE X (.Call (.Name x p) (e :: es) [] pos) (E.app f ms) := (pe_callB hc hg hm hv ha (hn := hn) (hdb := hd) (he := he) (hpl := hpl)).imp fun σ H Q q => app_imp h q
theorem se_callTy {x : Str} {T : String} {r : List V → Hp → VK → Prop} {f : List DV → Option MV} {p : Pos} {e : Expr} {es : List Expr} {ms : AM} (hm : X.mg x = none) (hc : CallR X (.type T) r) (h : BL X.K r f) (ha : SA X (e :: es) ms)
    (hv : bootBuiltins x = some (.type T) := by decide +kernel) (hg : Gl X x := by rfl) (hn : x ≠ "__name__" := by decide) (hd : (x == ("__debug__" : Str)) = false := by decide) (he : starEach (e :: es) X.env = (false, eval e X.env) :: starEach es X.env := by rfl) (hpl : (backTo pos (starEach es X.env)).any (·.1) = false := by rfl) :
    SE X (.Call (.Name x p) (e :: es) [] pos) (E.app f ms) := (pe_callTy hc hg hm hv ha (hn := hn) (hdb := hd) (he := he) (hpl := hpl)).imp fun σ H Q q => app_imp h q

/-! ### tests -/
def T.val (m : EM) : TM := fun sl => (m sl).bind fun o sl => match o.view sl with
  | some (.bl b) => .ok b sl
  | _ => .stuck
def truth : DV → Option Bool
  | .non => some false
  | .bl b => some b
  | .int i => some (i != 0)
  | .str y => if y.length ≤ sizeLine then some ((y.length : Int) != 0) else none
  | .tup xs => some (!xs.isEmpty)
  | .lst xs => some (!xs.isEmpty)
  | .scr xs => some (!xs.isEmpty)
  | _ => none
def T.tru (m : EM) : TM := fun sl => (m sl).bind fun o sl => match (o.view sl).bind truth with
  | some b => .ok b sl
  | _ => .stuck
theorem Tr.noL {W W' : Own} {H H' : Hp} {f : List Addr} (t : Tr W H W' (· ∈ f) H') : Tr W H W' nof H' := t.drop
theorem val_imp {m : EM} {Q : Bool → Hp → Prop} (q : tT K (T.val m) σ H Q) : tE K m σ H (fun x H' => ∃ k, x = .bl k ∧ Q k H') := by
  obtain ⟨O, W, sl, b, sl', x, e, q⟩ := tT_of q
  obtain ⟨o1, s1, e1, e2⟩ := bind_ok e
  refine tE_mk x e1 fun W1 f1 v1 H1 t1 x1 r1 n1 => ?_
  cases ev : o1.view s1 with
  | none => simp only [ev] at e2; cases e2
  | some d =>
    simp only [ev] at e2
    cases d with
    | bl k =>
      cases e2
      exact ⟨b, rw_bl (r1.toW' x1 ev), q W1 H1 t1.noL (x1.less fun a h => .inl h)⟩
    | _ => cases e2
theorem isE_rds {G : Hp} {ds : List DV} {vs : List V} (h : RDs K G ds vs) : vs.isEmpty = ds.isEmpty := by
  have := RDs.length h
  cases ds with
  | nil => cases vs with
    | nil => rfl
    | cons => simp at this
  | cons => cases vs with
    | nil => simp at this
    | cons => rfl
theorem truth_ok {G : Hp} (s : Same G H) {d : DV} {v : V} {k : Bool} (r : RW K G H d v) (h : truth d = some k) : TruV K v H k := by
  cases d with
  | non => rw [rw_non r]; cases h; rfl
  | bl b => rw [rw_bl r]; cases h; rfl
  | int i => rw [rw_int r]; cases h; rfl
  | str y =>
    rw [rw_str r]
    by_cases hl : y.length ≤ sizeLine
    · simp only [truth, if_pos hl] at h
      cases h
      exact ⟨hl, rfl⟩
    · simp only [truth, if_neg hl] at h
      cases h
  | tup xs =>
    obtain ⟨a, vs, rfl, _, h1, h2⟩ := rw_tup s r
    cases h
    exact .inr (.inl ⟨vs, h1, by rw [isE_rds h2]⟩)
  | lst xs =>
    obtain ⟨a, vs, rfl, h1, h2⟩ := rw_lst s r
    cases h
    exact .inl ⟨vs, SqL.of h1, by rw [isE_rds h2]⟩
  | ty t => cases h
  | obj _ _ _ => cases h
  | xcp _ _ _ _ => cases h
  | dct _ _ => cases h
  | scr xs =>
    obtain ⟨a, vs, rfl, h1, h2⟩ := rw_scr s r
    cases h
    exact .inl ⟨vs, h1, by rw [isE_rds h2]⟩
theorem tru_imp {m : EM} {Q : Bool → Hp → Prop} (q : tT K (T.tru m) σ H Q) : tE K m σ H (fun x H' => ∃ k, TruV K x H' k ∧ Q k H') := by
  obtain ⟨O, W, sl, b, sl', x, e, q⟩ := tT_of q
  obtain ⟨o1, s1, e1, e2⟩ := bind_ok e
  refine tE_mk x e1 fun W1 f1 v1 H1 t1 x1 r1 n1 => ?_
  cases ev : o1.view s1 with
  | none => simp only [ev, Option.bind_none] at e2; cases e2
  | some d =>
    simp only [ev, Option.bind_some] at e2
    cases et : truth d with
    | none => rw [et] at e2; cases e2
    | some k =>
      rw [et] at e2
      cases e2
      exact ⟨b, truth_ok hid_same (r1.toW' x1 ev) et, q W1 H1 t1.noL (x1.less fun a h => .inl h)⟩
theorem st_tru (ha : SE X a ma) (he : ∀ whole, isTrue a X.env whole = (do let v ← whole; standAt a.pos; holding [v] (truthy v)) := by intro _; rfl) : ST X a (T.tru ma) := (pt_truth ha he).imp fun σ H Q q => tru_imp q
theorem st_cmp {op : CmpOp} {r : R2} {f : DV → DV → Option MV} (ho : OpR X (compareOp op) r) (h : B2 X.K r f) (ha : SE X a ma) (hb : SE X b mb) (hm : behindInMarks op b = false := by first | exact nomark _ | rfl) : ST X (.Compare a [op] [b] pos) (T.val (E.bin f ma mb)) :=
  (pt_cmpR ho ha hb hm).imp fun σ H Q q => bin_imp h (val_imp q)
def T.and (a b : TM) : TM := fun sl => (a sl).bind fun c sl => if c then b sl else .ok false sl
def T.or (a b : TM) : TM := fun sl => (a sl).bind fun c sl => if c then .ok true sl else b sl
def T.not (a : TM) : TM := fun sl => (a sl).bind fun c sl => .ok (!c) sl
theorem and_imp {ta tb : TM} {Q : Bool → Hp → Prop} (q : tT K (T.and ta tb) σ H Q) : tAnd (tT K ta) (tT K tb) σ H Q := by
  obtain ⟨O, W, sl, b, sl', x, e, q⟩ := tT_of q
  obtain ⟨c1, s1, e1, e2⟩ := bind_ok e
  refine tT_mk x e1 fun W1 H1 t1 x1 => ?_
  cases c1 with
  | true =>
    rw [if_pos rfl] at e2 ⊢
    exact tT_mk x1 e2 fun W2 H2 t2 x2 => q W2 H2 (t1.trans t2) x2
  | false =>
    cases e2
    exact q W1 H1 t1 x1
theorem or_imp {ta tb : TM} {Q : Bool → Hp → Prop} (q : tT K (T.or ta tb) σ H Q) : tOr (tT K ta) (tT K tb) σ H Q := by
  obtain ⟨O, W, sl, b, sl', x, e, q⟩ := tT_of q
  obtain ⟨c1, s1, e1, e2⟩ := bind_ok e
  refine tT_mk x e1 fun W1 H1 t1 x1 => ?_
  cases c1 with
  | true =>
    cases e2
    exact q W1 H1 t1 x1
  | false =>
    exact tT_mk x1 e2 fun W2 H2 t2 x2 => q W2 H2 (t1.trans t2) x2
theorem not_imp {ta : TM} {Q : Bool → Hp → Prop} (q : tT K (T.not ta) σ H Q) : tNot (tT K ta) σ H Q := by
  obtain ⟨O, W, sl, b, sl', x, e, q⟩ := tT_of q
  obtain ⟨c1, s1, e1, e2⟩ := bind_ok e
  refine tT_mk x e1 fun W1 H1 t1 x1 => ?_
  cases e2
  exact q W1 H1 t1 x1
variable {rest : List Expr} {ta tb : TM}
theorem sw_and1 (ha : ST X a ta) : SW X (.BoolOp .And [a] pos) ta := pw_and1 ha
theorem sw_or1 (ha : ST X a ta) : SW X (.BoolOp .Or [a] pos) ta := pw_or1 ha
theorem sw_and (ha : ST X a ta) (hb : SW X (.BoolOp .And (b :: rest) pos) tb) : SW X (.BoolOp .And (a :: b :: rest) pos) (T.and ta tb) := (pw_and ha hb).imp fun σ H Q q => and_imp q
theorem sw_or (ha : ST X a ta) (hb : SW X (.BoolOp .Or (b :: rest) pos) tb) : SW X (.BoolOp .Or (a :: b :: rest) pos) (T.or ta tb) := (pw_or ha hb).imp fun σ H Q q => or_imp q
theorem st_w {e : Expr} (h : SW X e ta) : ST X e ta := h.pt
theorem st_not (ha : ST X a ta) : ST X (.UnaryOp .Not a pos) (T.not ta) := (pt_not ha).imp fun σ H Q q => not_imp q

/-! ### and, or, not, if as values; chains -/
def E.and (a b : EM) : EM := fun sl => (a sl).bind fun o sl => match (o.view sl).bind truth with
  | some true => b sl
  | some false => .ok o sl
  | none => .stuck
def E.or (a b : EM) : EM := fun sl => (a sl).bind fun o sl => match (o.view sl).bind truth with
  | some true => .ok o sl
  | some false => b sl
  | none => .stuck
def E.not (a : EM) : EM := fun sl => (a sl).bind fun o sl => match (o.view sl).bind truth with
  | some true => .ok (.tmp (.val (.bl false))) sl
  | some false => .ok (.tmp (.val (.bl true))) sl
  | none => .stuck
def E.ife (c : TM) (a b : EM) : EM := fun sl => (c sl).bind fun k sl => if k then a sl else b sl
theorem hast {o : Op} {sl sl' : Sl} {kt kf : Res Op} {x : Op} (h : (match (o.view sl).bind truth with | some true => kt | some false => kf | none => .stuck) = .ok x sl') : ∃ d c, o.view sl = some d ∧ truth d = some c ∧ (if c = true then kt else kf) = .ok x sl' := by
  cases e : o.view sl with
  | none => rw [e] at h; cases h
  | some d =>
    rw [e, Option.bind_some] at h
    cases e2 : truth d with
    | none => rw [e2] at h; cases h
    | some c =>
      rw [e2] at h
      cases c with
      | true => exact ⟨d, true, rfl, e2, by rw [if_pos rfl]; exact h⟩
      | false => exact ⟨d, false, rfl, e2, by rw [if_neg Bool.false_ne_true]; exact h⟩
/-- b evaluated behind a whose value is dropped -/
theorem second {Q : VK} {o : Op} {sl'' : Sl} {f1 : List Addr} {W1 : Own} {H1 : Hp} (x1 : Sim K (plus O f1) W1 sl' σ H1) (t1 : Tr W H W1 (· ∈ f1) H1) (e : mb sl' = .ok o sl'')
    (q : ∀ (W' : Own) (f : List Addr) (v : V) (H' : Hp), Tr W H W' (· ∈ f) H' → Sim K (plus O f) W' sl'' σ H' → ROp K (gr (plus O f) W' H') H' σ o v f → (∀ a ∈ f, ¬ O a) → Q v H') : tE K mb σ H1 Q :=
  tE_mk (x1.less (O' := O) fun a h => .inl h) e fun W2 f2 v2 H2 t2 x2 r2 n2 => q W2 f2 v2 H2 (t1.trans t2) x2 r2 n2
theorem andV_imp {Q : VK} (q : tE K (E.and ma mb) σ H Q) : tAndT K (tE K ma) (tE K mb) σ H Q := by
  obtain ⟨O, W, sl, o, sl', x, e, q⟩ := tE_of q
  obtain ⟨o1, s1, e1, e2⟩ := bind_ok e
  obtain ⟨d, c, ed, et, e3⟩ := hast e2
  refine tE_mk x e1 fun W1 f1 v1 H1 t1 x1 r1 n1 => ⟨c, truth_ok hid_same (r1.toW' x1 ed) et, ?_⟩
  cases c with
  | true =>
    rw [if_pos rfl] at e3 ⊢
    exact second x1 t1 e3 q
  | false =>
    rw [if_neg Bool.false_ne_true] at e3 ⊢
    cases e3
    exact q W1 f1 v1 H1 t1 x1 r1 n1
theorem orV_imp {Q : VK} (q : tE K (E.or ma mb) σ H Q) : tOrT K (tE K ma) (tE K mb) σ H Q := by
  obtain ⟨O, W, sl, o, sl', x, e, q⟩ := tE_of q
  obtain ⟨o1, s1, e1, e2⟩ := bind_ok e
  obtain ⟨d, c, ed, et, e3⟩ := hast e2
  refine tE_mk x e1 fun W1 f1 v1 H1 t1 x1 r1 n1 => ⟨c, truth_ok hid_same (r1.toW' x1 ed) et, ?_⟩
  cases c with
  | false =>
    rw [if_neg Bool.false_ne_true] at e3 ⊢
    exact second x1 t1 e3 q
  | true =>
    rw [if_pos rfl] at e3 ⊢
    cases e3
    exact q W1 f1 v1 H1 t1 x1 r1 n1
theorem notV_imp {Q : VK} (q : tE K (E.not ma) σ H Q) : tNotT K (tE K ma) σ H Q := by
  obtain ⟨O, W, sl, o, sl', x, e, q⟩ := tE_of q
  obtain ⟨o1, s1, e1, e2⟩ := bind_ok e
  obtain ⟨d, c, ed, et, e3⟩ := hast e2
  refine tE_mk x e1 fun W1 f1 v1 H1 t1 x1 r1 n1 => ⟨c, truth_ok hid_same (r1.toW' x1 ed) et, ?_⟩
  have e4 : o = .tmp (.val (.bl (!c))) ∧ sl' = s1 := by
    cases c with
    | true => rw [if_pos rfl] at e3; cases e3; exact ⟨rfl, rfl⟩
    | false => rw [if_neg Bool.false_ne_true] at e3; cases e3; exact ⟨rfl, rfl⟩
  obtain ⟨rfl, rfl⟩ := e4
  obtain ⟨y1, y2, y3, y4⟩ := fin_tmp (fr := []) (m := .val (.bl (!c))) (v := .bl (!c)) t1 x1 (fun a h => Or.inl h) (Same.refl H1) (fun a h => by simp at h) (.val (.bl _))
  exact q W1 [] _ H1 y1 y2 y3 y4
theorem ife_imp {tc : TM} {Q : VK} (q : tE K (E.ife tc ma mb) σ H Q) : tIf (tT K tc) (tE K ma) (tE K mb) σ H Q := by
  obtain ⟨O, W, sl, o, sl', x, e, q⟩ := tE_of q
  obtain ⟨c, s1, e1, e2⟩ := bind_ok e
  refine tT_mk x e1 fun W1 H1 t1 x1 => ?_
  cases c with
  | true =>
    rw [if_pos rfl] at e2 ⊢
    exact tE_mk x1 e2 fun W2 f2 v2 H2 t2 x2 r2 n2 => q W2 f2 v2 H2 (t1.trans t2) x2 r2 n2
  | false =>
    rw [if_neg Bool.false_ne_true] at e2 ⊢
    exact tE_mk x1 e2 fun W2 f2 v2 H2 t2 x2 r2 n2 => q W2 f2 v2 H2 (t1.trans t2) x2 r2 n2
theorem se_and1 {op} (ha : SE X a ma) : SE X (.BoolOp op [a] pos) ma := pe_one ha
theorem se_and (ha : SE X a ma) (hb : SE X (.BoolOp .And (b :: rest) pos) mb) : SE X (.BoolOp .And (a :: b :: rest) pos) (E.and ma mb) := (pe_andT ha hb).imp fun σ H Q q => andV_imp q
theorem se_or (ha : SE X a ma) (hb : SE X (.BoolOp .Or (b :: rest) pos) mb) : SE X (.BoolOp .Or (a :: b :: rest) pos) (E.or ma mb) := (pe_orT ha hb).imp fun σ H Q q => orV_imp q
theorem se_not (ha : SE X a ma) : SE X (.UnaryOp .Not a pos) (E.not ma) := (pe_notT ha).imp fun σ H Q q => notV_imp q
theorem se_ife {tc : TM} (hc : ST X c tc) (ha : SE X a ma) (hb : SE X b mb) : SE X (.IfExp c a b pos) (E.ife tc ma mb) := (pe_ifExp hc ha hb).imp fun σ H Q q => ife_imp q
def E.chain (f g : DV → DV → Option MV) (a b c : EM) : EM := fun sl => (a sl).bind fun o sl => (b sl).bind fun p sl => match o.view sl, p.view sl with
  | some d, some e => (match f d e with
    | some (.val (.bl true)) => (c sl).bind fun r sl => (match p.view sl, r.view sl with
      | some d, some e => fin (g d e) sl
      | _, _ => .stuck)
    | some (.val (.bl false)) => .ok (.tmp (.val (.bl false))) sl
    | _ => .stuck)
  | _, _ => .stuck
theorem chain_imp {r r' : R2} {f g : DV → DV → Option MV} (h : B2 K r f) (h' : B2 K r' g) {Q : VK} (q : tE K (E.chain f g ma mb mc) σ H Q) : tChain r r' (tE K ma) (tE K mb) (tE K mc) σ H Q := by
  obtain ⟨O, W, sl, o, sl', x, e, q⟩ := tE_of q
  obtain ⟨o1, s1, e1, e2⟩ := bind_ok e
  obtain ⟨o2, s2, e2, e3⟩ := bind_ok e2
  obtain ⟨d1, d2, ed1, ed2, e3⟩ := hasv2 e3
  refine tE_mk x e1 fun W1 f1 v1 H1 t1 x1 r1 n1 => ?_
  refine tE_mk x1 e2 fun W2 f2 v2 H2 t2 x2 r2 n2 => ?_
  have r1' := r1.up x1 (fun a h => Or.inr h) t2 (O1 := plus (plus O f1) f2) (fun a h => h)
  cases ef : f d1 d2 with
  | none => rw [ef] at e3; cases e3
  | some m =>
    rw [ef] at e3
    cases m with
    | lst _ => cases e3
    | obj _ _ _ => cases e3
    | dct _ _ => cases e3
    | bo _ _ _ _ _ _ => cases e3
    | val d =>
      cases d with
      | bl k =>
        refine h (own (plus (plus O f1) f2) W2) H2 v1 v2 d1 d2 _ _ ef (fun a => x2.ownAlive) (r1'.toW' x2 ed1) (r2.toW' x2 ed2) fun v' H' fr s hf rm => ?_
        have hv : v' = .bl k := by
          cases rm with
          | val q => cases q; rfl
        obtain ⟨y1, y2, y3, y4⟩ := fin_tmp (t1.trans t2) x2 (fun a h => Or.inl (Or.inl h)) s hf rm
        refine ⟨k, hv, ?_⟩
        cases k with
        | false =>
          rw [if_neg Bool.false_ne_true]
          cases e3
          rw [← hv]
          exact q W2 fr v' H' y1 y2 y3 y4
        | true =>
          rw [if_pos rfl]
          obtain ⟨o3, s3, e3, e4⟩ := bind_ok e3
          obtain ⟨d3, d4, ed3, ed4, e4⟩ := hasv2 e4
          obtain ⟨m, em, rfl, rfl⟩ := fin_ok e4
          have hfr : fr = [] := by cases rm; rfl
          subst hfr
          have x3 : Sim K (plus (plus O f1) f2) W2 s2 σ H' := x2.grow s (fun a h => .inl h) fun a h => by
            obtain ⟨ob, e⟩ := x2.al a h
            exact ⟨ob, s a ob e⟩
          refine tE_mk x3 e3 fun W3 f3 v3 H3 t3 x4 r3 n3 => ?_
          have r2a := r2.up x2 (fun a h => Or.inr h) (Tr.ofSame s (f := nof) fun _ h => h.elim) (O1 := plus (plus O f1) f2) (fun a h => .inl h)
          have r2b := r2a.up x3 (fun a h => Or.inr h) t3 (O1 := plus (plus (plus O f1) f2) f3) (fun a h => h)
          refine h' (own (plus (plus (plus O f1) f2) f3) W3) H3 v2 v3 d3 d4 m Q em (fun a => x4.ownAlive) (r2b.toW' x4 ed3) (r3.toW' x4 ed4) fun v'' H'' fr s' hf' rm' => ?_
          obtain ⟨z1, z2, z3, z4⟩ := fin_tmp ((t1.trans t2).trans ((Tr.ofSame s (f := nof) fun _ h => h.elim).trans t3)) x4 (fun a h => Or.inl (Or.inl (Or.inl h))) s' hf' rm'
          exact q W3 fr v'' H'' z1 z2 z3 z4
      | _ => cases e3
theorem se_chain {op op' : CmpOp} {r r' : R2} {f g : DV → DV → Option MV} (ho : OpR X (compareOp op) r) (h : B2 X.K r f) (ho' : OpR X (compareOp op') r') (h' : B2 X.K r' g) (ha : SE X a ma) (hb : SE X b mb) (hc : SE X c mc)
    (hm : lastMarks [op, op'] [b, c] = false := by with_unfolding_all rfl) : SE X (.Compare a [op, op'] [b, c] pos) (E.chain f g ma mb mc) := (pe_chain ho ho' ha hb hc hm).imp fun σ H Q q => chain_imp h h' q
theorem st_chain {op op' : CmpOp} {r r' : R2} {f g : DV → DV → Option MV} (ho : OpR X (compareOp op) r) (h : B2 X.K r f) (ho' : OpR X (compareOp op') r') (h' : B2 X.K r' g) (ha : SE X a ma) (hb : SE X b mb) (hc : SE X c mc)
    (hm : lastMarks [op, op'] [b, c] = false := by with_unfolding_all rfl) : ST X (.Compare a [op, op'] [b, c] pos) (T.val (E.chain f g ma mb mc)) := (pt_chain ho ho' ha hb hc hm).imp fun σ H Q q => chain_imp h h' (val_imp q)

/-! ### slices -/
abbrev OM := Sl → Res (Option Int)
def tOp' (K : PySem.W.Frag) (m : OM) : TO := fun σ H Q => ∃ O W sl, Sim K O W sl σ H ∧ match m sl with
  | .ok b sl' => ∀ (W' : Own) (H' : Hp), Tr W H W' nof H' → Sim K O W' sl' σ H' → Q b H'
  | _ => False
abbrev SO (X : Cx) (e : Option Expr) (m : OM) : Prop := PO X e (tOp' X.K m)
def OP.none : OM := fun sl => .ok Option.none sl
def OP.some (m : EM) : OM := fun sl => (m sl).bind fun o sl => match o.view sl with
  | Option.some (.int i) => .ok (Option.some i) sl
  | _ => .stuck
theorem tO_of {m : OM} {Q : Option Int → Hp → Prop} (h : tOp' K m σ H Q) : ∃ O W sl b sl', Sim K O W sl σ H ∧ m sl = .ok b sl' ∧
    ∀ (W' : Own) (H' : Hp), Tr W H W' nof H' → Sim K O W' sl' σ H' → Q b H' := by
  obtain ⟨O, W, sl, x, q⟩ := h
  cases e : m sl with
  | ok o sl' => rw [e] at q; exact ⟨O, W, sl, o, sl', x, e, q⟩
  | exc _ _ => rw [e] at q; exact q.elim
  | stuck => rw [e] at q; exact q.elim
theorem tO_mk {m : OM} {Q : Option Int → Hp → Prop} {O W sl b sl'} (x : Sim K O W sl σ H) (e : m sl = .ok b sl')
    (q : ∀ (W' : Own) (H' : Hp), Tr W H W' nof H' → Sim K O W' sl' σ H' → Q b H') : tOp' K m σ H Q := by
  refine ⟨O, W, sl, x, ?_⟩
  rw [e]
  exact q
theorem so_none : SO X none OP.none := ⟨fun pins s σ H Q I q => po_none.run pins s σ H Q I (by
  obtain ⟨O, W, sl, b, sl', x, e, q⟩ := tO_of q
  cases e
  exact q W H Tr.refl x)⟩
theorem so_some (ha : SE X a ma) : SO X (some a) (OP.some ma) := ⟨fun pins s σ H Q I q => (po_some ha).run pins s σ H Q I (by
  obtain ⟨O, W, sl, b, sl', x, e, q⟩ := tO_of q
  obtain ⟨o1, s1, e1, e2⟩ := bind_ok e
  refine tE_mk x e1 fun W1 f1 v1 H1 t1 x1 r1 n1 => ?_
  cases ev : o1.view s1 with
  | none => rw [ev] at e2; cases e2
  | some d =>
    rw [ev] at e2
    cases d with
    | int i => cases e2; exact ⟨i, rw_int (r1.toW' x1 ev), q W1 H1 t1.noL (x1.less fun a h => .inl h)⟩
    | _ => cases e2)⟩
def E.slc (f : DV → Option Int → Option Int → Option MV) (a : EM) (l h : OM) : EM := fun sl => (a sl).bind fun o sl => (l sl).bind fun lo sl => (h sl).bind fun hi sl => match o.view sl with
  | some d => fin (f d lo hi) sl
  | none => .stuck
def BS (K : PySem.W.Frag) (r : V → Option Int → Option Int → Hp → VK → Prop) (f : DV → Option Int → Option Int → Option MV) : Prop :=
  ∀ (P : Addr → Prop) (H : Hp) (x : V) (d : DV) (lo hi : Option Int) (m : MV) (Q : VK), f d lo hi = some m → Alv P H → RW K (hid H P) H d x → New K P H m Q → r x lo hi H Q
theorem slc_imp {r : V → Option Int → Option Int → Hp → VK → Prop} {f : DV → Option Int → Option Int → Option MV} {l u : OM} {Q : VK} (h : BS K r f) (q : tE K (E.slc f ma l u) σ H Q) : tSl r (tE K ma) (tOp' K l) (tOp' K u) σ H Q := by
  obtain ⟨O, W, sl, o, sl', x, e, q⟩ := tE_of q
  obtain ⟨o1, s1, e1, e2⟩ := bind_ok e
  obtain ⟨lo, s2, k2, k3⟩ := bind_ok e2
  obtain ⟨hi, s3, k4, k5⟩ := bind_ok k3
  obtain ⟨d, ed, e5⟩ := hasv k5
  obtain ⟨m, em, rfl, rfl⟩ := fin_ok e5
  refine tE_mk x e1 fun W1 f1 v1 H1 t1 x1 r1 n1 => ?_
  refine tO_mk x1 k2 fun W2 H2 t2 x2 => ?_
  refine tO_mk x2 k4 fun W3 H3 t3 x3 => ?_
  have r1' := r1.up x1 (fun a h => Or.inr h) (t2.trans t3) (O1 := plus O f1) (fun a h => .inl h)
  refine h (own (plus O f1) W3) H3 v1 d lo hi m Q em (fun a => x3.ownAlive) (r1'.toW' x3 ed) fun v' H' fr s hf rm => ?_
  obtain ⟨y1, y2, y3, y4⟩ := fin_tmp (t1.trans (t2.trans t3)) x3 (fun a h => Or.inl h) s hf rm
  exact q W3 fr v' H' y1 y2 y3 y4
theorem se_slc {r : V → Option Int → Option Int → Hp → VK → Prop} {f : DV → Option Int → Option Int → Option MV} {l u : OM} {lo hi : Option Expr} {p2 : Pos} (ho : SlR X r) (h : BS X.K r f) (ha : SE X a ma) (hl : SO X lo l) (hu : SO X hi u) :
    SE X (.Subscript a (.Slice lo hi none p2) pos) (E.slc f ma l u) := (pe_slice ho ha hl hu).imp fun σ H Q q => slc_imp h q
end

/-! ### what is put into a display is shared from then on -/
def settle : List Op → Sl → Option (List DV × Sl)
  | [], sl => some ([], sl)
  | .tmp m :: os, sl => (settle os sl).map fun p => (m.view :: p.1, p.2)
  | .pl i :: os, sl => match sl[i]? with
    | some (some m) => (settle os (sl.set i (some (.val m.view)))).map fun p => (m.view :: p.1, p.2)
    | _ => none
theorem map_some {α β : Type} {o : Option α} {f : α → β} {b : β} (h : o.map f = some b) : ∃ a, o = some a ∧ f a = b := by
  cases o with
  | none => simp at h
  | some a => exact ⟨a, rfl, by simpa using h⟩
theorem settle_ok {K : PySem.W.Frag} {O : Addr → Prop} {σ : L2.St} {H : Hp} : ∀ (os : List Op) (sl sl' : Sl) (ds : List DV) (W : Own) (F : Own) (vs : List V), settle os sl = some (ds, sl') → Sim K (plusF O F) W sl σ H → ROps K (gr (plusF O F) W H) H σ os vs F →
    (∀ j, ∀ a ∈ F j, ¬ O a) → ∃ W', Sim K O W' sl' σ H ∧ RDs K (gr O W' H) ds vs ∧ ∀ i a, a ∈ W' i → a ∈ W i
  | [], sl, sl', ds, W, F, vs, e, x, r, n => by
    cases e
    have := r.len
    simp at this
    have hv : vs = [] := List.eq_nil_of_length_eq_zero this.symm
    subst hv
    exact ⟨W, x.less fun a h => .inl h, .nil, fun i a h => h⟩
  | .tmp m :: os, sl, sl', ds, W, F, vs, e, x, r, n => by
    obtain ⟨v, r', rfl, q, rt⟩ := r.tail
    obtain ⟨⟨ds2, sl2⟩, e1, e2⟩ := map_some e
    cases e2
    have hO : ∀ a, plusF O (fun j => F (j + 1)) a → plusF O F a := fun a h => h.elim .inl fun ⟨j, h⟩ => .inr ⟨j + 1, h⟩
    have hG : Same (gr (plusF O F) W H) (gr (plusF O fun j => F (j + 1)) W H) := hid_less fun a h => h.elim (fun h => .inl (hO a h)) .inr
    have rt' : ROps K (gr (plusF O fun j => F (j + 1)) W H) H σ os r' fun j => F (j + 1) := ⟨rt.len, fun j o h => by
      obtain ⟨w, e, p⟩ := rt.at_ j o h
      refine ⟨w, e, ?_⟩
      generalize F (j + 1) = fj at p
      cases p with
      | tmp p => exact .tmp (p.mono hG fun _ _ _ h => h)
      | pl e => exact .pl e, rt.no, rt.inj⟩
    obtain ⟨W', x', rd, sh⟩ := settle_ok os sl _ ds2 W _ r' e1 (x.less hO) rt' fun j a h => n (j + 1) a h
    refine ⟨W', x', .cons ?_ rd, sh⟩
    generalize hf0 : F 0 = f0 at q
    cases q with
    | tmp q =>
      refine q.frz (hid_less fun a h => h.elim (fun h => .inl (.inl h)) fun ⟨i, h⟩ => .inr ⟨i, sh i a h⟩) fun a ha ob e => hid_some.mpr ⟨fun y => ?_, e⟩
      have ha' : a ∈ F 0 := by rw [hf0]; exact ha
      rcases y with y | ⟨i, y⟩
      · exact n 0 a ha' y
      · exact x.dis i a (sh i a y) (.inr ⟨0, ha'⟩)
  | .pl i :: os, sl, sl', ds, W, F, vs, e, x, r, n => by
    obtain ⟨v, r', rfl, q, rt⟩ := r.tail
    unfold settle at e
    cases h : sl[i]? with
    | none => rw [h] at e; cases e
    | some y =>
      cases y with
      | none => rw [h] at e; cases e
      | some m =>
        rw [h] at e
        obtain ⟨⟨ds2, sl2⟩, e1, e2⟩ := map_some e
        cases e2
        have x1 := x.frz h
        have hO : ∀ a, plusF O (fun j => F (j + 1)) a → plusF O F a := fun a h => h.elim .inl fun ⟨j, h⟩ => .inr ⟨j + 1, h⟩
        have sub : ∀ j a, a ∈ setW W i [] j → a ∈ W j := fun j a h => by
          unfold setW at h
          by_cases e : j = i
          · rw [if_pos e] at h; simp at h
          · rw [if_neg e] at h; exact h
        have hG : Same (gr (plusF O F) W H) (gr (plusF O fun j => F (j + 1)) (setW W i []) H) := hid_less fun a h => h.elim (fun h => .inl (hO a h)) fun ⟨j, h⟩ => .inr ⟨j, sub j a h⟩
        have rt' : ROps K (gr (plusF O fun j => F (j + 1)) (setW W i []) H) H σ os r' fun j => F (j + 1) := ⟨rt.len, fun j o h => by
          obtain ⟨w, e, p⟩ := rt.at_ j o h
          refine ⟨w, e, ?_⟩
          generalize F (j + 1) = fj at p
          cases p with
          | tmp p => exact .tmp (p.mono hG fun _ _ _ h => h)
          | pl e => exact .pl e, rt.no, rt.inj⟩
        obtain ⟨W', x', rd, sh⟩ := settle_ok os _ _ ds2 _ _ r' e1 (x1.less hO) rt' fun j a h => n (j + 1) a h
        refine ⟨W', x', .cons ?_ rd, fun j a h => sub j a (sh j a h)⟩
        generalize F 0 = f0 at q
        cases q with
        | pl ev =>
          refine (x.getv h ev).frz (hid_less fun a h => h.elim (fun h => .inl (.inl h)) fun ⟨j, h⟩ => .inr ⟨j, sub j a (sh j a h)⟩) fun a ha ob e => hid_some.mpr ⟨fun y => ?_, e⟩
          rcases y with y | ⟨j, y⟩
          · exact x.dis i a ha (.inl y)
          · have y' := sh j a y
            have hj := x.inj j i a (sub j a y') ha
            subst hj
            simp [setW] at y'
/-- a tuple of data that was just laid -/
theorem new_tup {K : PySem.W.Frag} {P : Addr → Prop} {H : Hp} {ds : List DV} {vs : List V} {Q : VK} (al : Alv P H) (r : RDs K (hid H P) ds vs) (q : New K P H (.val (.tup ds)) Q) : ∀ p, H p = none → Q (.ref p) (upd H p (.tup vs)) := fun p hp => by
  have s : Same H (upd H p (.tup vs)) := fun a o e => by rw [upd_ne (ne_of_none e hp)]; exact e
  have np : ¬ P p := fun h => by
    obtain ⟨o, e⟩ := al p h
    rw [hp] at e; cases e
  refine q _ _ [] s (fun a h => by simp at h) (.val (.tup (vs := vs) (hid_some.mpr ⟨fun h => h.elim np fun h => by simp at h, upd_same⟩) (r.up fun a o e => ?_)))
  obtain ⟨h1, h2⟩ := hid_some.mp e
  exact hid_some.mpr ⟨fun h => h.elim h1 fun h => by simp at h, s a o h2⟩
theorem new_lst {K : PySem.W.Frag} {P : Addr → Prop} {H : Hp} {ds : List DV} {vs : List V} {Q : VK} (al : Alv P H) (r : RDs K (hid H P) ds vs) (q : New K P H (.lst ds) Q) : ∀ p, H p = none → Q (.ref p) (upd H p (.lst vs)) := fun p hp => by
  have s : Same H (upd H p (.lst vs)) := fun a o e => by rw [upd_ne (ne_of_none e hp)]; exact e
  refine q _ _ [p] s (fun a h => by simp at h; rw [h]; exact hp) (.lst (vs := vs) upd_same (r.up fun a o e => ?_))
  obtain ⟨h1, h2⟩ := hid_some.mp e
  have na : a ≠ p := fun z => by rw [z, hp] at h2; cases h2
  exact hid_some.mpr ⟨fun h => h.elim h1 fun h => na (by simpa using h), s a o h2⟩
def E.disp (mk : List DV → MV) (as : AM) : EM := fun sl => (as sl).bind fun os sl => match settle os sl with
  | some (ds, sl) => if ds.length ≤ 1000 then .ok (.tmp (mk ds)) sl else .stuck
  | none => .stuck
abbrev E.tup := E.disp fun ds => .val (.tup ds)
abbrev E.lst := E.disp fun ds => .lst ds
theorem l1000 {n : Nat} (h : n ≤ 1000) : n ≤ sizeLine := Nat.le_trans h (by rw [sizeLine_eq]; decide)
theorem disp_imp {K : PySem.W.Frag} {σ : L2.St} {H : Hp} {ms : AM} {mk : List DV → MV} {Q : VK} {k : List V → Hp → VK → Prop} (hk : ∀ (P : Addr → Prop) (H : Hp) ds vs (Q : VK), ds.length ≤ 1000 → Alv P H → RDs K (hid H P) ds vs → New K P H (mk ds) Q → k vs H Q)
    (q : tE K (E.disp mk ms) σ H Q) : tAs K ms σ H (fun vs H1 => k vs H1 Q) := by
  obtain ⟨O, W, sl, o, sl', x, e, q⟩ := tE_of q
  obtain ⟨os, s1, e1, e2⟩ := bind_ok e
  cases e3 : settle os s1 with
  | none => rw [e3] at e2; cases e2
  | some p =>
    obtain ⟨ds, s2⟩ := p
    rw [e3] at e2
    by_cases hl : ds.length ≤ 1000
    · simp only [if_pos hl] at e2
      cases e2
      refine tAs_mk x e1 fun W1 F1 vs H1 t1 x1 r1 n1 => ?_
      obtain ⟨W2, x2, rd, sh⟩ := settle_ok os s1 _ ds W1 F1 vs e3 x1 r1 n1
      refine hk (own O W2) H1 ds vs Q hl (fun a => x2.ownAlive) rd fun v' H' fr s hf rm => ?_
      have t2 : Tr W H W2 nof H1 := ⟨t1.keep, fun i a h => t1.new i a (sh i a h), fun _ h => h.elim⟩
      obtain ⟨y1, y2, y3, y4⟩ := fin_tmp t2 x2 (fun a h => h) s hf rm
      exact q W2 fr v' H' y1 y2 y3 y4
    · simp only [if_neg hl] at e2
      cases e2
section
variable {X : Cx} {pos : Pos} {es : List Expr} {ms : AM}
theorem se_tup {x1} (h : SA X es ms) : SE X (.Tuple es x1 pos) (E.tup ms) := (pe_tup h).imp fun σ H Q q => disp_imp (k := fun vs H1 Q => vs.length ≤ sizeLine ∧ ∀ p, H1 p = none → Q (.ref p) (upd H1 p (.tup vs)))
  (fun P H ds vs Q hl al r n => ⟨by rw [← RDs.length r]; exact l1000 hl, new_tup al r n⟩) q
theorem se_lst (h : SA X es ms) : SE X (.List es pos) (E.lst ms) := (pe_lst h).imp fun σ H Q q => disp_imp (k := fun vs H1 Q => vs.length ≤ sizeLine ∧ ∀ p, H1 p = none → Q (.ref p) (upd H1 p (.lst vs)))
  (fun P H ds vs Q hl al r n => ⟨by rw [← RDs.length r]; exact l1000 hl, new_lst al r n⟩) q
end
end Sy
namespace Sy
open PySem PySem.Spec PyProof.Rows L2

inductive SRes where
  | nx (sl : Sl) | ret (m : MV) (sl : Sl) | bk (sl : Sl) | ct (sl : Sl) | exc (x : Exc) (sl : Sl) | stuck
abbrev SM := Sl → SRes
def Res.s {α : Type} (r : Res α) (f : α → Sl → SRes) : SRes := match r with
  | .ok a sl => f a sl
  | _ => .stuck
/-- where what is asked may raise -/
def Res.sx {α : Type} (r : Res α) (f : α → Sl → SRes) : SRes := match r with
  | .ok a sl => f a sl
  | .exc x sl => .exc x sl
  | .stuck => .stuck
@[simp] theorem Res.sx_ok {α : Type} {a : α} {sl : Sl} {f : α → Sl → SRes} : (Res.ok a sl).sx f = f a sl := rfl
@[simp] theorem Res.sx_exc {α : Type} {a : Exc} {sl : Sl} {f : α → Sl → SRes} : (Res.exc a sl).sx f = .exc a sl := rfl
@[simp] theorem Res.sx_stuck {α : Type} {f : α → Sl → SRes} : (Res.stuck : Res α).sx f = .stuck := rfl
@[simp] theorem Res.s_ok {α : Type} {a : α} {sl : Sl} {f : α → Sl → SRes} : (Res.ok a sl).s f = f a sl := rfl
@[simp] theorem Res.s_exc {α : Type} {a : Exc} {sl : Sl} {f : α → Sl → SRes} : (Res.exc a sl).s f = .stuck := rfl
@[simp] theorem Res.s_stuck {α : Type} {f : α → Sl → SRes} : (Res.stuck : Res α).s f = .stuck := rfl
def Agr (as : List Nat) (σ σ' : L2.St) : Prop := ∀ i : Nat, i ∉ as → σ'[i]? = σ[i]?
theorem Agr.refl {as : List Nat} {σ : L2.St} : Agr as σ σ := fun _ _ => rfl
theorem Agr.trans {as : List Nat} {σ σ1 σ2 : L2.St} (a : Agr as σ σ1) (b : Agr as σ1 σ2) : Agr as σ σ2 := fun i h => (b i h).trans (a i h)
theorem Agr.mono {as bs : List Nat} {σ σ1 : L2.St} (a : Agr as σ σ1) (h : ∀ i ∈ as, i ∈ bs) : Agr bs σ σ1 := fun i hi => a i fun x => hi (h i x)
theorem Agr.set {as : List Nat} {σ : L2.St} {i : Nat} {v : Option V} (h : i ∈ as) : Agr as σ (σ.set i v) := fun j hj => by
  rw [List.getElem?_set_ne (show i ≠ j from fun e => hj (by rw [← e]; exact h))]

/-- an exception's class and dict -/
def RX (K : PySem.W.Frag) (G : Hp) (x : Exc) (cls : Value) (d : Option Addr) : Prop := cls = .ref x.cls ∧ ((x.ns = [] ∧ x.ds = [] ∧ d = none) ∨ ∃ (e : Addr) (vs : List V), d = some e ∧ G e = some (.xd (x.ns.zip vs)) ∧ x.ns.length = vs.length ∧ RDs K G x.ds vs)
theorem RX.up {K : PySem.W.Frag} {G G' : Hp} {x : Exc} {cls : Value} {d : Option Addr} (s : Same G G') (h : RX K G x cls d) : RX K G' x cls d := by
  obtain ⟨h1, h2 | ⟨e, vs, h2, h3, h4, h5⟩⟩ := h
  · exact ⟨h1, .inl h2⟩
  · exact ⟨h1, .inr ⟨e, vs, h2, s _ _ h3, h4, h5.up s⟩⟩
def PostS (K : PySem.W.Frag) (Wx : WX) (O : Addr → Prop) (W : Own) (H : Hp) (σ : L2.St) (as : List Nat) (D : Ends) : SRes → Prop
  | .nx sl' => ∀ (W' : Own) (σ' : L2.St) (H' : Hp), Tr W H W' nof H' → Sim K O W' sl' σ' H' → Agr as σ σ' → D.nx σ' H'
  | .bk sl' => ∀ (W' : Own) (σ' : L2.St) (H' : Hp), Tr W H W' nof H' → Sim K O W' sl' σ' H' → Agr as σ σ' → D.bk σ' H'
  | .ct sl' => ∀ (W' : Own) (σ' : L2.St) (H' : Hp), Tr W H W' nof H' → Sim K O W' sl' σ' H' → Agr as σ σ' → D.ct σ' H'
  | .ret m sl' => ∀ (W' : Own) (f : List Addr) (v : V) (σ' : L2.St) (H' : Hp), Tr W H W' (· ∈ f) H' → Sim K (plus O f) W' sl' σ' H' → RM K (gr (plus O f) W' H') H' m v f → (∀ a ∈ f, ¬ O a) → Agr as σ σ' → D.rt v H'
  | .exc x sl' => ∀ (W' : Own) (σ' : L2.St) (H' : Hp) (cls : Value) (d : Option Addr), Tr W H W' nof H' → Sim K O W' sl' σ' H' → Agr as σ σ' → RX K (gr O W' H') x cls d → Wx cls d σ' H'
  | .stuck => False
def tS (K : PySem.W.Frag) (Wx : WX) (m : SM) (as : List Nat) : TS := fun D σ H => ∃ O W sl, Sim K O W sl σ H ∧ PostS K Wx O W H σ as D (m sl)
abbrev SS (X : Cx) (st : Stmt) (m : SM) (as : List Nat) : Prop := ∀ Wx, Takes X Wx → PS X st (tS X.K Wx m as)
abbrev SSs (X : Cx) (st : List Stmt) (m : SM) (as : List Nat) : Prop := ∀ Wx, Takes X Wx → PSs X st (tS X.K Wx m as)

section
variable {K : PySem.W.Frag} {O : Addr → Prop} {W W1 : Own} {H H1 : Hp} {σ σ1 : L2.St} {as bs : List Nat} {D D' : Ends} {r : SRes} {Wx : WX}
theorem PostS.go (q : PostS K Wx O W H σ as D r) (t : Tr W H W1 nof H1) (a : Agr as σ σ1) : PostS K Wx O W1 H1 σ1 as D r := by
  cases r with
  | nx sl => exact fun W' σ' H' t' x a' => q W' σ' H' (t.trans t') x (a.trans a')
  | bk sl => exact fun W' σ' H' t' x a' => q W' σ' H' (t.trans t') x (a.trans a')
  | ct sl => exact fun W' σ' H' t' x a' => q W' σ' H' (t.trans t') x (a.trans a')
  | ret m sl => exact fun W' f v σ' H' t' x r n a' => q W' f v σ' H' (t.trans t') x r n (a.trans a')
  | exc x sl => exact fun W' σ' H' cls d t' y a' rx => q W' σ' H' cls d (t.trans t') y (a.trans a') rx
  | stuck => exact q.elim
theorem PostS.mono (q : PostS K Wx O W H σ bs D r) (h : ∀ i ∈ as, i ∈ bs) : PostS K Wx O W H σ as D r := by
  cases r with
  | nx sl => exact fun W' σ' H' t' x a' => q W' σ' H' t' x (a'.mono h)
  | bk sl => exact fun W' σ' H' t' x a' => q W' σ' H' t' x (a'.mono h)
  | ct sl => exact fun W' σ' H' t' x a' => q W' σ' H' t' x (a'.mono h)
  | ret m sl => exact fun W' f v σ' H' t' x r n a' => q W' f v σ' H' t' x r n (a'.mono h)
  | exc x sl => exact fun W' σ' H' cls d t' y a' rx => q W' σ' H' cls d t' y (a'.mono h) rx
  | stuck => exact q.elim
end

/-! ### blocks -/
def S.nil : SM := .nx
def S.seq (a b : SM) : SM := fun sl => match a sl with
  | .nx sl => b sl
  | r => r
def S.pass : SM := .nx
def S.brk : SM := .bk
def S.cnt : SM := .ct
def S.expr (m : EM) : SM := fun sl => (m sl).s fun _ sl => .nx sl
def settle1 (o : Op) (sl : Sl) : Option (DV × Sl) := match o with
  | .tmp m => some (m.view, sl)
  | .pl i => match sl[i]? with
    | some (some m) => some (m.view, sl.set i (some (.val m.view)))
    | _ => none
def S.asg (i : Nat) (m : EM) : SM := fun sl => (m sl).s fun o sl => match o with
  | .tmp m => if i < sl.length then .nx (sl.set i (some m)) else .stuck
  | .pl j => match settle1 (.pl j) sl with
    | some (d, sl) => if i < sl.length then .nx (sl.set i (some (.val d))) else .stuck
    | none => .stuck
/-- np: the parameters; what a parameter holds is shared when it is handed back -/
def S.ret (np : Nat) (m : EM) : SM := fun sl => (m sl).s fun o sl => match o with
  | .tmp m => .ret m sl
  | .pl i => if i < np then (match settle1 (.pl i) sl with
      | some (d, sl) => .ret (.val d) sl
      | none => .stuck) else match sl[i]? with
      | some (some m) => .ret m (sl.set i none)
      | _ => .stuck
def S.retN : SM := fun sl => .ret (.val .non) sl
def S.ife (c : TM) (a b : SM) : SM := fun sl => (c sl).s fun k sl => if k then a sl else b sl
def S.aug (i : Nat) (f : DV → DV → Option MV) (m : EM) : SM := fun sl => match sl[i]? with
  | some (some (.val _)) => (m sl).s fun o sl => (match sl[i]?, o.view sl with
    | some (some (.val d)), some e => (match f d e with
      | some m => if i < sl.length then .nx (sl.set i (some m)) else .stuck
      | none => .stuck)
    | _, _ => .stuck)
  | _ => .stuck

theorem settle1_ok {K : PySem.W.Frag} {O : Addr → Prop} {W : Own} {sl sl' : Sl} {σ : L2.St} {H : Hp} {o : Op} {v : V} {f : List Addr} {d : DV} (x : Sim K (plus O f) W sl σ H) (r : ROp K (gr (plus O f) W H) H σ o v f) (n : ∀ a ∈ f, ¬ O a) (e : settle1 o sl = some (d, sl')) :
    ∃ W', Sim K O W' sl' σ H ∧ RD K (gr O W' H) d v ∧ ∀ i a, a ∈ W' i → a ∈ W i := by
  have e2 : settle [o] sl = some ([d], sl') := by
    cases o with
    | tmp m => simp only [settle1, Option.some.injEq, Prod.mk.injEq] at e; simp [settle, e]
    | pl i =>
      simp only [settle1] at e
      cases h : sl[i]? with
      | none => rw [h] at e; cases e
      | some y =>
        cases y with
        | none => rw [h] at e; cases e
        | some m => rw [h] at e; cases e; simp [settle, h]
  have hP : ∀ a, plusF O (fun j => if j = 0 then f else []) a ↔ plus O f a := fun a => by
    constructor
    · rintro (h | ⟨j, h⟩)
      · exact .inl h
      · by_cases hj : j = 0
        · simp [hj] at h; exact .inr h
        · simp [hj] at h
    · rintro (h | h)
      · exact .inl h
      · exact .inr ⟨0, by simpa using h⟩
  have hG : Same (gr (plus O f) W H) (gr (plusF O fun j => if j = 0 then f else []) W H) := hid_less fun a h => h.elim (fun h => .inl ((hP a).mp h)) .inr
  obtain ⟨W', x', rd, sh⟩ := settle_ok [o] sl sl' [d] W (fun j => if j = 0 then f else []) [v] e2 (x.less fun a h => (hP a).mp h) ⟨rfl, fun j p h => by
      cases j with
      | zero =>
        simp at h; subst h
        refine ⟨v, rfl, ?_⟩
        simp only [if_true]
        cases r with
        | tmp r => exact .tmp (r.mono hG fun _ _ _ h => h)
        | pl e => exact .pl e
      | succ j => simp at h, fun j h => by
      have hj : j ≠ 0 := fun z => by subst z; simp at h
      simp [hj], fun i j a h1 h2 => by
      by_cases h3 : i = 0
      · by_cases h4 : j = 0
        · rw [h3, h4]
        · simp [h4] at h2
      · simp [h3] at h1⟩ fun j a h => by
      by_cases hj : j = 0
      · simp [hj] at h; exact n a h
      · simp [hj] at h
  cases rd with
  | cons q _ => exact ⟨W', x', q, sh⟩
theorem tr_shr {W W1 W2 : Own} {H H1 : Hp} {f : Addr → Prop} (t : Tr W H W1 f H1) (sh : ∀ i a, a ∈ W2 i → a ∈ W1 i) : Tr W H W2 f H1 := ⟨t.keep, fun i a h => t.new i a (sh i a h), t.newf⟩
/-- shared data into a slot -/
theorem Sim.setv {K : PySem.W.Frag} {O : Addr → Prop} {W : Own} {sl : Sl} {σ : L2.St} {H : Hp} {d : DV} {v : V} {i : Nat} (x : Sim K O W sl σ H) (r : RD K (gr O W H) d v) (hi : i < sl.length) : Sim K O (setW W i []) (sl.set i (some (.val d))) (σ.set i (some v)) H :=
  Sim.put (fl := []) (x.less fun a h => h.elim id fun h => by simp at h) hi (.val (r.up (hid_less fun a h => h.elim (fun h => h.elim .inl fun h => by simp at h) .inr))) fun a h => by simp at h
theorem shr_set {W : Own} {i : Nat} : ∀ j a, a ∈ setW W i [] j → a ∈ W j := fun j a h => by
  unfold setW at h
  by_cases e : j = i
  · rw [if_pos e] at h; simp at h
  · rw [if_neg e] at h; exact h
/-- what a slot holds is taken out of it -/
theorem Sim.take {K : PySem.W.Frag} {O : Addr → Prop} {W : Own} {sl : Sl} {σ : L2.St} {H : Hp} {m : MV} {v : V} {i : Nat} (x : Sim K O W sl σ H) (e : sl[i]? = some (some m)) (ev : σ[i]? = some (some v)) :
    Sim K (plus O (W i)) (setW W i []) (sl.set i none) σ H ∧ RM K (gr (plus O (W i)) (setW W i []) H) H m v (W i) ∧ ∀ a ∈ W i, ¬ O a := by
  have hi : i < sl.length := (List.getElem?_eq_some_iff.mp e).1
  have hG : Same (gr O W H) (gr (plus O (W i)) (setW W i []) H) := hid_less fun a h => by
    rcases h with (h | h) | ⟨j, h⟩
    · exact .inl h
    · exact .inr ⟨i, h⟩
    · exact .inr ⟨j, shr_set j a h⟩
  refine ⟨⟨fun j m' e' => ?_, fun j h => ?_, fun j k a h1 h2 => x.inj j k a (shr_set j a h1) (shr_set k a h2), fun j a h => ?_, fun a h => ?_, by simpa using x.len⟩, (x.getv e ev).mono hG fun _ _ _ h => h, fun a h => x.dis i a h⟩
  · have hj : j ≠ i := fun z => by
      subst z
      rw [List.getElem?_set_self hi] at e'
      cases e'
    rw [List.getElem?_set_ne (Ne.symm hj)] at e'
    obtain ⟨v', e1, r'⟩ := x.at_ j m' e'
    refine ⟨v', e1, ?_⟩
    have : setW W i [] j = W j := by simp [setW, hj]
    rw [this]
    exact r'.mono hG fun _ _ _ h => h
  · by_cases hj : j = i
    · simp [setW, hj]
    · simp only [setW, hj, if_false]
      exact x.no j fun m' e => h m' (by rw [List.getElem?_set_ne (Ne.symm hj)]; exact e)
  · rintro (h' | h')
    · exact x.dis j a (shr_set j a h) h'
    · have hj : j ≠ i := fun z => by subst z; simp [setW] at h
      exact hj (x.inj j i a (shr_set j a h) h')
  · rcases h with h | h
    · exact x.al a h
    · exact x.alive h

section
variable {X : Cx} {K : PySem.W.Frag} {σ : L2.St} {H : Hp} {D : Ends} {as bs : List Nat} {ma : EM} {a b : SM} {st : Stmt} {rest : List Stmt} {e : Expr} {pos : Pos} {Wx : WX}
theorem seq_imp (q : tS K Wx (S.seq a b) as D σ H) : tSeq (tS K Wx a as) (tS K Wx b as) D σ H := by
  obtain ⟨O, W, sl, x, q⟩ := q
  refine ⟨O, W, sl, x, ?_⟩
  unfold S.seq at q
  cases e : a sl with
  | nx sl' =>
    rw [e] at q
    exact fun W1 σ1 H1 t1 x1 a1 => ⟨O, W1, sl', x1, q.go t1 a1⟩
  | ret m s => rw [e] at q; exact q
  | bk s => rw [e] at q; exact q
  | ct s => rw [e] at q; exact q
  | exc _ _ => rw [e] at q; exact q
  | stuck => rw [e] at q; exact q.elim
theorem as_imp (h : ∀ i ∈ as, i ∈ bs) (q : tS K Wx a bs D σ H) : tS K Wx a as D σ H := by
  obtain ⟨O, W, sl, x, q⟩ := q
  exact ⟨O, W, sl, x, q.mono h⟩
theorem sub_of {as bs : List Nat} (h : (as.all fun i => bs.contains i) = true) : ∀ i ∈ as, i ∈ bs := fun i hi => by
  have := (List.all_eq_true.mp h) i hi
  simpa using this
theorem ss_nil : SSs X [] S.nil as := fun Wx tk => pss_nil.imp fun D σ H q => by
  obtain ⟨O, W, sl, x, q⟩ := q
  exact q W σ H Tr.refl x Agr.refl
theorem ss_cons (h1 : SS X st a as) (h2 : SSs X rest b as) : SSs X (st :: rest) (S.seq a b) as := fun Wx tk => (pss_cons (h1 Wx tk) (h2 Wx tk)).imp fun D σ H q => seq_imp q
theorem ss_one (h1 : SS X st a as) : SSs X [st] a as := fun Wx tk => pss_one (h1 Wx tk)
theorem ss_pass : SS X (.Pass pos) S.pass as := fun Wx tk => ps_pass.imp fun D σ H q => by
  obtain ⟨O, W, sl, x, q⟩ := q
  exact q W σ H Tr.refl x Agr.refl
theorem ss_brk : SS X (.Break pos) S.brk as := fun Wx tk => ps_break.imp fun D σ H q => by
  obtain ⟨O, W, sl, x, q⟩ := q
  exact q W σ H Tr.refl x Agr.refl
theorem ss_cnt : SS X (.Continue pos) S.cnt as := fun Wx tk => ps_continue.imp fun D σ H q => by
  obtain ⟨O, W, sl, x, q⟩ := q
  exact q W σ H Tr.refl x Agr.refl
theorem s_ok {α : Type} {r : Res α} {f : α → Sl → SRes} {P : SRes → Prop} (hs : ¬ P .stuck) (h : P (r.s f)) : ∃ a s, r = .ok a s ∧ P (f a s) := by
  cases r with
  | ok a s => exact ⟨a, s, rfl, h⟩
  | exc x s => exact absurd h hs
  | stuck => exact absurd h hs
theorem post_ok {α : Type} {O : Addr → Prop} {W : Own} {r : Res α} {f : α → Sl → SRes} (h : PostS K Wx O W H σ as D (r.s f)) : ∃ a s, r = .ok a s ∧ PostS K Wx O W H σ as D (f a s) := s_ok (fun h => h) h
theorem ss_expr (he : SE X e ma) (hs : swapsWith e none pos.line X.env = pure false := by rfl) : SS X (.Expr e pos) (S.expr ma) as := fun Wx tk => (ps_expr he hs).imp fun D σ H q => by
  obtain ⟨O, W, sl, x, q⟩ := q
  obtain ⟨o, s1, e1, q⟩ := post_ok q
  exact tE_mk x e1 fun W1 f1 v1 H1 t1 x1 r1 n1 => q W1 σ H1 t1.noL (x1.less fun a h => .inl h) Agr.refl
theorem ss_doc {x j pos'} : SS X (.Expr (.Constant (.str x) j pos) pos') S.nil as := fun Wx tk => ps_doc.imp fun D σ H q => by
  obtain ⟨O, W, sl, x, q⟩ := q
  exact q W σ H Tr.refl x Agr.refl
theorem asg_imp {i : Nat} (ha : i ∈ as) (q : tS K Wx (S.asg i ma) as D σ H) : tAsg (tE K ma) (gName i) D σ H := by
  obtain ⟨O, W, sl, x, q⟩ := q
  obtain ⟨o, s1, e1, q⟩ := post_ok q
  refine tE_mk x e1 fun W1 f1 v1 H1 t1 x1 r1 n1 => ?_
  show D.nx (σ.set i (some v1)) H1
  cases o with
  | tmp m =>
    simp only at q
    by_cases hi : i < s1.length
    · rw [if_pos hi] at q
      cases r1 with
      | tmp r1 => exact q _ _ H1 (tr_setW t1 fun a h => .inl h) (x1.put hi r1 n1) (Agr.set ha)
    · rw [if_neg hi] at q; exact q.elim
  | pl j =>
    simp only at q
    cases es : settle1 (.pl j) s1 with
    | none => rw [es] at q; exact q.elim
    | some p =>
      obtain ⟨d, s2⟩ := p
      rw [es] at q
      simp only at q
      by_cases hi : i < s2.length
      · rw [if_pos hi] at q
        obtain ⟨W2, x2, rd, sh⟩ := settle1_ok x1 r1 n1 es
        exact q _ _ H1 (tr_shr (tr_shr t1.noL sh) shr_set) (x2.setv rd hi) (Agr.set ha)
      · rw [if_neg hi] at q; exact q.elim
theorem ss_asg {i : Nat} {x : Str} {pos' : Pos} (hN : X.N.Nodup) (he : SE X e ma) (hi : X.N[i]? = some x := by rfl) (hx : Loc X.env.scope x := by first | exact .inl rfl | exact .inr rfl) (hs : swapsWith e (some (.Name x pos')) pos.line X.env = pure false := by rfl)
    (hf : X.fn x = true ∨ X.env.scope.names.lookup x = some .local := by first | exact .inl rfl | exact .inr rfl) (ha : i ∈ as := by decide) : SS X (.Assign [.Name x pos'] e pos) (S.asg i ma) as := fun Wx tk => (ps_set hN hi hx he hs hf).imp fun D σ H q => asg_imp ha q
theorem ss_ret (np : Nat) (he : SE X e ma) : SS X (.Return (some e) pos) (S.ret np ma) as := fun Wx tk => (ps_ret he).imp fun D σ H q => by
  obtain ⟨O, W, sl, x, q⟩ := q
  obtain ⟨o, s1, e1, q⟩ := post_ok q
  refine tE_mk x e1 fun W1 f1 v1 H1 t1 x1 r1 n1 => ?_
  cases o with
  | tmp m =>
    cases r1 with
    | tmp r1 => exact q W1 f1 v1 σ H1 t1 x1 r1 n1 Agr.refl
  | pl i =>
    simp only at q
    by_cases hi : i < np
    · rw [if_pos hi] at q
      cases es : settle1 (.pl i) s1 with
      | none => rw [es] at q; exact q.elim
      | some p =>
        obtain ⟨d, s2⟩ := p
        rw [es] at q
        obtain ⟨W2, x2, rd, sh⟩ := settle1_ok x1 r1 n1 es
        have hG : Same (gr O W2 H1) (gr (plus O []) W2 H1) := hid_less fun a h => h.elim (fun h => h.elim .inl fun h => by simp at h) .inr
        exact q W2 [] v1 σ H1 ((tr_shr t1 sh).less fun a h => by simp at h) (x2.less fun a h => h.elim id fun h => by simp at h) (.val (rd.up hG)) (fun a h => by simp at h) Agr.refl
    · rw [if_neg hi] at q
      cases h : s1[i]? with
      | none => rw [h] at q; exact q.elim
      | some y =>
        cases y with
        | none => rw [h] at q; exact q.elim
        | some m =>
          rw [h] at q
          have x1' : Sim X.K O W1 s1 σ H1 := x1.less fun a h => .inl h
          cases r1 with
          | pl ev =>
            obtain ⟨y1, y2, y3⟩ := x1'.take h ev
            exact q _ _ v1 σ H1 ⟨t1.keep, fun j a h => t1.new j a (shr_set j a h), fun a h => t1.new i a h⟩ y1 y2 y3 Agr.refl
theorem ss_retN : SS X (.Return none pos) S.retN as := fun Wx tk => ps_retN.imp fun D σ H q => by
  obtain ⟨O, W, sl, x, q⟩ := q
  have hG : Same (gr O W H) (gr (plus O []) W H) := hid_less fun a h => h.elim (fun h => h.elim .inl fun h => by simp at h) .inr
  exact q W [] .non σ H (Tr.refl.less fun a h => by simp at h) (x.less fun a h => h.elim id fun h => by simp at h) (.val .non) (fun a h => by simp at h) Agr.refl
theorem ife_impS {tc : TM} (q : tS K Wx (S.ife tc a b) as D σ H) : tIfS (tT K tc) (tS K Wx a as) (tS K Wx b as) D σ H := by
  obtain ⟨O, W, sl, x, q⟩ := q
  obtain ⟨c, s1, e1, q⟩ := post_ok q
  refine tT_mk x e1 fun W1 H1 t1 x1 => ?_
  cases c with
  | true => exact ⟨O, W1, s1, x1, (show PostS K Wx O W H σ as D (a s1) from q).go t1 Agr.refl⟩
  | false => exact ⟨O, W1, s1, x1, (show PostS K Wx O W H σ as D (b s1) from q).go t1 Agr.refl⟩
theorem ss_if {c : Expr} {p r : List Stmt} {tc : TM} (hc : ST X c tc) (ha : SSs X p a as) (hb : SSs X r b as) : SS X (.If c p r pos) (S.ife tc a b) as := fun Wx tk => (ps_if hc (ha Wx tk) (hb Wx tk)).imp fun D σ H q => ife_impS q
theorem aug_imp {i : Nat} {ti : TIp} {f : DV → DV → Option MV} (h : B2 K ti f) (ha : i ∈ as) (q : tS K Wx (S.aug i f ma) as D σ H) : tAug i (tE K ma) ti D σ H := by
  obtain ⟨O, W, sl, x, q⟩ := q
  unfold S.aug at q
  cases h0 : sl[i]? with
  | none => rw [h0] at q; exact q.elim
  | some y =>
    cases y with
    | none => rw [h0] at q; exact q.elim
    | some m0 =>
      cases m0 with
      | lst _ => rw [h0] at q; exact q.elim
      | obj _ _ _ => rw [h0] at q; exact q.elim
      | dct _ _ => rw [h0] at q; exact q.elim
      | bo _ _ _ _ _ _ => rw [h0] at q; exact q.elim
      | val d0 =>
        rw [h0] at q
        obtain ⟨v0, ev0, _⟩ := x.get h0
        refine ⟨v0, ev0, ?_⟩
        obtain ⟨o, s1, e1, q⟩ := post_ok q
        refine tE_mk x e1 fun W1 f1 v1 H1 t1 x1 r1 n1 => ?_
        cases h1 : s1[i]? with
        | none => rw [h1] at q; exact q.elim
        | some y =>
          cases y with
          | none => rw [h1] at q; exact q.elim
          | some m1 =>
            cases m1 with
            | lst _ => rw [h1] at q; exact q.elim
            | obj _ _ _ => rw [h1] at q; exact q.elim
            | dct _ _ => rw [h1] at q; exact q.elim
            | bo _ _ _ _ _ _ => rw [h1] at q; exact q.elim
            | val d =>
              rw [h1] at q
              cases h2 : o.view s1 with
              | none => rw [h2] at q; exact q.elim
              | some e =>
                rw [h2] at q
                simp only at q
                cases h3 : f d e with
                | none => rw [h3] at q; exact q.elim
                | some m =>
                  rw [h3] at q
                  simp only at q
                  by_cases hi : i < s1.length
                  · rw [if_pos hi] at q
                    have rv := x1.getv h1 ev0
                    refine h (own (plus O f1) W1) H1 v0 v1 d e m _ h3 (fun a => x1.ownAlive) rv.toW (r1.toW' x1 h2) fun v' H' fr s hf rm => ?_
                    obtain ⟨y1, y2, y3, y4⟩ := fin_tmp t1 x1 (fun a h => Or.inl h) s hf rm
                    cases y3 with
                    | tmp y3 => exact q _ _ H' (tr_setW y1 fun a h => .inl h) (y2.put hi y3 y4) (Agr.set ha)
                  · rw [if_neg hi] at q; exact q.elim
theorem ss_aug {i : Nat} {x : Str} {pos' : Pos} {op : Operator} {ti : TIp} {f : DV → DV → Option MV} (hN : X.N.Nodup) (ho : PIp X op ti) (h : B2 X.K ti f) (he : SE X e ma) (hi : X.N[i]? = some x := by rfl) (hx : Loc X.env.scope x := by first | exact .inl rfl | exact .inr rfl)
    (hf : X.fn x = true ∨ X.env.scope.names.lookup x = some .local := by first | exact .inl rfl | exact .inr rfl) (ha : i ∈ as := by decide) : SS X (.AugAssign (.Name x pos') op e pos) (S.aug i f ma) as := fun Wx tk => (ps_aug hN hi hx he ho hf).imp fun D σ H q => aug_imp h ha q
end

/-! ### targets -/
inductive Pat where
  | nm (i : Nat) | tp (ps : List Pat)
mutual
def bindP : Pat → DV → Sl → Option Sl
  | .nm i, d, sl => if i < sl.length then some (sl.set i (some (.val d))) else none
  | .tp ps, d, sl => match d with
    | .tup ds => bindPs ps ds sl
    | _ => none
def bindPs : List Pat → List DV → Sl → Option Sl
  | [], [], sl => some sl
  | p :: ps, d :: ds, sl => match bindP p d sl with
    | some sl => bindPs ps ds sl
    | none => none
  | _, _, _ => none
end
def tG (K : PySem.W.Frag) (p : Pat) (as : List Nat) : TG := fun v σ H Q => ∃ O W sl d sl', Sim K O W sl σ H ∧ RD K (gr O W H) d v ∧ bindP p d sl = some sl' ∧ ∀ W' σ', Sim K O W' sl' σ' H → (∀ i a, a ∈ W' i → a ∈ W i) → Agr as σ σ' → Q σ' H
def tGs (K : PySem.W.Frag) (ps : List Pat) (as : List Nat) : TGs := fun vs σ H Q => ∃ O W sl ds sl', Sim K O W sl σ H ∧ RDs K (gr O W H) ds vs ∧ bindPs ps ds sl = some sl' ∧ ∀ W' σ', Sim K O W' sl' σ' H → (∀ i a, a ∈ W' i → a ∈ W i) → Agr as σ σ' → Q σ' H
theorem _root_.L2.PG.imp {X : Cx} {e : Expr} {t t' : TG} (h : PG X e t) (i : ∀ v σ H Q, t' v σ H Q → t v σ H Q) : PG X e t' := ⟨fun pins s σ H v u Q I r q => h.run pins s σ H v u Q I r (i v σ H Q q)⟩
theorem _root_.L2.PGs.imp {X : Cx} {e : List Expr} {t t' : TGs} (h : PGs X e t) (i : ∀ v σ H Q, t' v σ H Q → t v σ H Q) : PGs X e t' := ⟨fun pins s σ H v u Q I r q => h.run pins s σ H v u Q I r (i v σ H Q q)⟩
abbrev SG (X : Cx) (e : Expr) (p : Pat) (as : List Nat) : Prop := PG X e (tG X.K p as)
abbrev SGs (X : Cx) (e : List Expr) (p : List Pat) (as : List Nat) : Prop := PGs X e (tGs X.K p as)
section
variable {X : Cx} {as : List Nat} {pos : Pos}
theorem gs_same {O : Addr → Prop} {W W' : Own} {H : Hp} (sh : ∀ i a, a ∈ W' i → a ∈ W i) : Same (gr O W H) (gr O W' H) := hid_less fun a h => h.elim .inl fun ⟨i, h⟩ => .inr ⟨i, sh i a h⟩
theorem sg_nm (i : Nat) {x : Str} (hN : X.N.Nodup) (hi : X.N[i]? = some x := by rfl) (hx : Loc X.env.scope x := by first | exact .inl rfl | exact .inr rfl) (hf : X.fn x = true ∨ X.env.scope.names.lookup x = some .local := by first | exact .inl rfl | exact .inr rfl) (ha : i ∈ as := by decide) : SG X (.Name x pos) (.nm i) as :=
  (pg_name hN hi hx hf).imp fun v σ H Q q => by
    obtain ⟨O, W, sl, d, sl', x, r, e, q⟩ := q
    unfold bindP at e
    by_cases h : i < sl.length
    · rw [if_pos h] at e
      cases e
      exact q _ _ (x.setv r h) shr_set (Agr.set ha)
    · rw [if_neg h] at e; cases e
theorem sgs_nil : SGs X [] [] as := pgs_nil.imp fun v σ H Q q => by
  obtain ⟨O, W, sl, ds, sl', x, r, e, q⟩ := q
  cases ds with
  | nil =>
    unfold bindPs at e
    cases e
    cases r
    exact ⟨rfl, q W σ x (fun _ _ h => h) Agr.refl⟩
  | cons _ _ => unfold bindPs at e; cases e
theorem sgs_cons {e : Expr} {es : List Expr} {p : Pat} {ps : List Pat} (h1 : SG X e p as) (h2 : SGs X es ps as) (hs : (assignEach (e :: es) X.env).map (·.2) = assign e X.env :: (assignEach es X.env).map (·.2) := by rfl) : SGs X (e :: es) (p :: ps) as :=
  (pgs_cons h1 h2 hs).imp fun v σ H Q q => by
    obtain ⟨O, W, sl, ds, sl', x, r, e, q⟩ := q
    cases ds with
    | nil => unfold bindPs at e; cases e
    | cons d ds =>
      cases r with
      | cons r1 r2 =>
        unfold bindPs at e
        cases e1 : bindP p d sl with
        | none => rw [e1] at e; cases e
        | some s1 =>
          rw [e1] at e
          refine ⟨_, _, rfl, O, W, sl, d, s1, x, r1, e1, fun W1 σ1 x1 sh1 a1 => ?_⟩
          exact ⟨O, W1, s1, ds, sl', x1, r2.up (gs_same sh1), e, fun W2 σ2 x2 sh2 a2 => q W2 σ2 x2 (fun i a h => sh1 i a (sh2 i a h)) (a1.trans a2)⟩
theorem sg_tp {es : List Expr} {k : Nat} {ps : List Pat} {n : Nat} (hc : X.calm = true) (h : SGs X es ps as) (hn : (assignEach es X.env).length = n := by rfl) (hl : ps.length = n := by rfl) (hst : (assignEach es X.env).findIdx? (·.1) = none := by rfl) : SG X (.Tuple es k pos) (.tp ps) as :=
  (pg_tup hc h hn hst).imp fun v σ H Q q => by
    obtain ⟨O, W, sl, d, sl', x, r, e, q⟩ := q
    cases d with
    | tup ds =>
      unfold bindP at e
      cases r with
      | tup r1 r2 =>
        have len : ∀ (ps : List Pat) (ds : List DV) (sl : Sl), bindPs ps ds sl = some sl' → ps.length = ds.length := by
          intro ps
          induction ps with
          | nil =>
            intro ds sl e
            cases ds with
            | nil => rfl
            | cons _ _ => unfold bindPs at e; cases e
          | cons p ps ih =>
            intro ds sl e
            cases ds with
            | nil => unfold bindPs at e; cases e
            | cons d ds =>
              unfold bindPs at e
              cases e1 : bindP p d sl with
              | none => rw [e1] at e; cases e
              | some s1 => rw [e1] at e; simp [ih ds s1 e]
        exact ⟨_, _, rfl, SqT.of (hid_same _ _ r1), by rw [← RDs.length r2, ← len ps ds sl e, hl], O, W, sl, ds, sl', x, r2, e, q⟩
    | _ => unfold bindP at e; cases e
end
def S.unp (p : Pat) (m : EM) : SM := fun sl => (m sl).s fun o sl => match settle1 o sl with
  | some (d, sl) => (match bindP p d sl with
    | some sl => .nx sl
    | none => .stuck)
  | none => .stuck
section
variable {X : Cx} {as : List Nat} {pos : Pos} {e tg : Expr} {ma : EM} {p : Pat}
theorem ss_unp (he : SE X e ma) (hg : SG X tg p as) (hs : swapsWithSole [tg] e pos.line X.env = pure false := by rfl) (hw : swappedStores [tg] e X.env = pure none := by rfl)
    (h1 : (assignEach [tg] X.env).map (·.2) = [assign tg X.env] := by rfl) : SS X (.Assign [tg] e pos) (S.unp p ma) as := fun Wx tk => (ps_asg he hg hs hw h1).imp fun D σ H q => by
  obtain ⟨O, W, sl, x, q⟩ := q
  obtain ⟨o, s1, e1, q⟩ := post_ok q
  refine tE_mk x e1 fun W1 f1 v1 H1 t1 x1 r1 n1 => ?_
  cases es : settle1 o s1 with
  | none => rw [es] at q; exact q.elim
  | some y =>
    obtain ⟨d, s2⟩ := y
    rw [es] at q
    simp only at q
    cases eb : bindP p d s2 with
    | none => rw [eb] at q; exact q.elim
    | some s3 =>
      rw [eb] at q
      obtain ⟨W2, x2, rd, sh⟩ := settle1_ok x1 r1 n1 es
      exact ⟨O, W2, s2, d, s3, x2, rd, eb, fun W3 σ3 x3 sh3 a3 => q W3 σ3 H1 (tr_shr (tr_shr t1.noL sh) sh3) x3 a3⟩
end
end Sy
namespace Sy
open PySem PySem.Spec PyProof.Rows L2

/-! ### what a loop walks -/
abbrev IM := Sl → Res (List DV)
def ItOk (K : PySem.W.Frag) (G : Hp) (ds : List DV) (J : It) : Prop := ∀ (i : Nat) (H : Hp) (P : Addr → Prop), Alv P H → Same G (hid H P) →
  (i < ds.length → J.go i H ∧ ∀ x H', J.yld i H x H' → Same H H' ∧ ∃ d, ds[i]? = some d ∧ RD K (hid H' P) d x) ∧ (ds.length ≤ i → J.stop i H)
def tI (K : PySem.W.Frag) (m : IM) : TI := fun σ H R => ∃ O W sl, Sim K O W sl σ H ∧ match m sl with
  | .ok ds sl' => ∀ (W' : Own) (H' : Hp) (J : It), Tr W H W' nof H' → Sim K O W' sl' σ H' → ItOk K (gr O W' H') ds J → R J H'
  | _ => False
abbrev SI (X : Cx) (tg e : Expr) (m : IM) : Prop := PI X tg e (tI X.K m)
theorem _root_.L2.PI.imp {X : Cx} {tg e : Expr} {t t' : TI} (h : PI X tg e t) (i : ∀ σ H R, t' σ H R → t σ H R) : PI X tg e t' := ⟨fun pins s σ H R I q => h.run pins s σ H R I (i σ H R q)⟩
theorem tI_of {K : PySem.W.Frag} {m : IM} {σ : L2.St} {H : Hp} {R : It → Hp → Prop} (h : tI K m σ H R) : ∃ O W sl ds sl', Sim K O W sl σ H ∧ m sl = .ok ds sl' ∧
    ∀ (W' : Own) (H' : Hp) (J : It), Tr W H W' nof H' → Sim K O W' sl' σ H' → ItOk K (gr O W' H') ds J → R J H' := by
  obtain ⟨O, W, sl, x, q⟩ := h
  cases e : m sl with
  | ok o sl' => rw [e] at q; exact ⟨O, W, sl, o, sl', x, e, q⟩
  | exc _ _ => rw [e] at q; exact q.elim
  | stuck => rw [e] at q; exact q.elim
def I.lst (m : EM) : IM := fun sl => (m sl).bind fun o sl => match settle1 o sl with
  | some (.lst ds, sl) => .ok ds sl
  | some (.scr ds, sl) => .ok ds sl
  | _ => .stuck
def I.tup (m : EM) : IM := fun sl => (m sl).bind fun o sl => match settle1 o sl with
  | some (.tup ds, sl) => .ok ds sl
  | _ => .stuck
def chars (x : Str) : List DV := x.cps.toList.map fun c => .str ⟨#[c]⟩
def I.str (m : EM) : IM := fun sl => (m sl).bind fun o sl => match settle1 o sl with
  | some (.str x, sl) => .ok (chars x) sl
  | _ => .stuck
def small62 (n : Int) : Prop := -(2 ^ 62) ≤ n ∧ n < 2 ^ 62
noncomputable instance (n : Int) : Decidable (small62 n) := Classical.propDecidable _
noncomputable def I.rng1 (as : AM) : IM := fun sl => (as sl).bind fun os sl => match views sl os with
  | some [.int n] => if small62 n then .ok ((List.range n.toNat).map fun (i : Nat) => .int i) sl else .stuck
  | _ => .stuck
noncomputable def I.rng2 (as : AM) : IM := fun sl => (as sl).bind fun os sl => match views sl os with
  | some [.int a, .int b] => if small62 a ∧ small62 b then .ok ((List.range (b - a).toNat).map fun (i : Nat) => .int (a + i)) sl else .stuck
  | _ => .stuck
def numbered (xs : List DV) : List DV := (List.range xs.length).map fun (i : Nat) => .tup [.int i, xs.getD i .non]
def I.enum (as : AM) : IM := fun sl => (as sl).bind fun os sl => match settle os sl with
  | some ([.lst ds], sl) => .ok (numbered ds) sl
  | _ => .stuck
section
variable {X : Cx} {tg e : Expr} {pos p : Pos} {ma : EM} {K : PySem.W.Frag} {G H : Hp} {a : Addr} {vs : List V} {ds : List DV}
theorem itok_list (h : SqL K G a vs) (r : RDs K G ds vs) : ItOk K G ds (Itl K a) := fun i H P al s => by
  have hH : SqL K H a vs := Same.seq (H := G) (fun b o e => (hid_some.mp (s b o e)).2) h
  refine ⟨fun hi => ?_, fun hi => ⟨vs, hH, by rw [← RDs.length r]; exact hi⟩⟩
  obtain ⟨v, ev, rv⟩ := r.get (List.getElem?_eq_getElem hi)
  exact ⟨⟨vs, v, hH, ev⟩, fun x H' ⟨e1, e2⟩ => by
    subst e1
    have e3 := e2 vs hH
    rw [ev] at e3; cases e3
    exact ⟨Same.refl _, _, List.getElem?_eq_getElem hi, rv.up s⟩⟩
theorem itok_tup (h : SqT K G a vs) (r : RDs K G ds vs) : ItOk K G ds (Itt K a) := fun i H P al s => by
  have hH : SqT K H a vs := same_sqt (fun b o e => (hid_some.mp (s b o e)).2 : Same G H) h
  refine ⟨fun hi => ?_, fun hi => ⟨vs, hH, by rw [← RDs.length r]; exact hi⟩⟩
  obtain ⟨v, ev, rv⟩ := r.get (List.getElem?_eq_getElem hi)
  exact ⟨⟨vs, v, hH, ev⟩, fun x H' ⟨e1, e2⟩ => by
    subst e1
    have e3 := e2 vs hH
    rw [ev] at e3; cases e3
    exact ⟨Same.refl _, _, List.getElem?_eq_getElem hi, rv.up s⟩⟩
theorem itok_str {x : Str} : ItOk K G (chars x) (Its x) := fun i H P al s => by
  have hl : (chars x).length = x.cps.size := by simp [chars]
  refine ⟨fun hi => ?_, fun hi => (show x.cps.size ≤ i by rw [← hl]; exact hi)⟩
  rw [hl] at hi
  refine ⟨hi, fun y H' ⟨e1, c, e2, e3⟩ => ?_⟩
  subst e1 e3
  refine ⟨Same.refl _, .str ⟨#[c]⟩, ?_, .str _⟩
  simp [chars, e2]
theorem itok_rng {lo : Int} {n : Nat} : ItOk K G ((List.range n).map fun (i : Nat) => DV.int (lo + i)) (Itr lo n) := fun i H P al s => by
  refine ⟨fun hi => ?_, fun hi => (show n ≤ i by simpa using hi)⟩
  simp at hi
  refine ⟨hi, fun y H' ⟨e1, e2⟩ => ?_⟩
  subst e1 e2
  exact ⟨Same.refl _, .int (lo + i), by simp [hi], .int _⟩
theorem itok_enum (h : SqL K G a vs) (r : RDs K G ds vs) : ItOk K G (numbered ds) (Ite K a) := fun i H P al s => by
  have hH : SqL K H a vs := Same.seq (H := G) (fun b o e => (hid_some.mp (s b o e)).2) h
  have hl : (numbered ds).length = ds.length := by simp [numbered]
  refine ⟨fun hi => ?_, fun hi => ⟨vs, hH, by rw [← RDs.length r, ← hl]; exact hi⟩⟩
  rw [hl] at hi
  obtain ⟨v, ev, rv⟩ := r.get (List.getElem?_eq_getElem hi)
  refine ⟨⟨vs, v, hH, ev⟩, fun x H' ⟨T, y, e0, nT, e1, e2⟩ => ?_⟩
  subst e0 e1
  have e3 := e2 vs hH
  rw [ev] at e3; cases e3
  have sm : Same H (upd H T (.tup [.int (i : Nat), v])) := fun b o e => by rw [upd_ne (ne_of_none e nT)]; exact e
  have np : ¬ P T := fun z => by
    obtain ⟨o, e⟩ := al T z
    rw [nT] at e; cases e
  have sm2 : Same (hid H P) (hid (upd H T (.tup [.int (i : Nat), v])) P) := fun b o e => by
    obtain ⟨h1, h2⟩ := hid_some.mp e
    exact hid_some.mpr ⟨h1, sm b o h2⟩
  refine ⟨sm, .tup [.int i, ds[i]], ?_, .tup (vs := [.int (i : Nat), v]) (hid_some.mpr ⟨np, upd_same⟩) (.cons (.int _) (.cons ((rv.up s).up sm2) .nil))⟩
  simp [numbered, hi]
theorem seq_start {m : IM} {k : DV → Option (List DV)} {R : It → Hp → Prop} {σ : L2.St} {f : V → Hp → Prop} (hm : ∀ sl ds sl', m sl = .ok ds sl' → ∃ o s1 d, ma sl = .ok o s1 ∧ settle1 o s1 = some (d, sl') ∧ k d = some ds)
    (hf : ∀ O W H' d v ds, RD K (gr O W H') d v → k d = some ds → (∀ J, ItOk K (gr O W H') ds J → R J H') → f v H') (q : tI K m σ H R) : tE K ma σ H f := by
  obtain ⟨O, W, sl, ds, sl', x, e, q⟩ := tI_of q
  obtain ⟨o, s1, d, e1, e2, e3⟩ := hm sl ds sl' e
  refine tE_mk x e1 fun W1 f1 v1 H1 t1 x1 r1 n1 => ?_
  obtain ⟨W2, x2, rd, sh⟩ := settle1_ok x1 r1 n1 e2
  exact hf O W2 H1 d v1 ds rd e3 fun J j => q W2 H1 J (tr_shr t1.noL sh) x2 j
theorem si_lst (he : SE X e ma) : SI X tg e (I.lst ma) := (pi_list he).imp fun σ H R q => seq_start (k := fun d => match d with | .lst ds => some ds | .scr ds => some ds | _ => none) (fun sl ds sl' e => by
    obtain ⟨o, s1, e1, e2⟩ := bind_ok e
    cases e3 : settle1 o s1 with
    | none => rw [e3] at e2; cases e2
    | some p =>
      obtain ⟨d, s2⟩ := p
      rw [e3] at e2
      cases d with
      | lst _ => cases e2; exact ⟨o, s1, _, e1, e3, rfl⟩
      | scr _ => cases e2; exact ⟨o, s1, _, e1, e3, rfl⟩
      | _ => cases e2) (fun O W H' d v ds rd ek k => by
    cases d with
    | lst _ =>
      cases ek
      cases rd with
      | lst q r => exact ⟨_, rfl, ⟨_, hid_same.seq (SqL.of q)⟩, k _ (itok_list (SqL.of q) r)⟩
    | scr _ =>
      cases ek
      cases rd with
      | scr q r => exact ⟨_, rfl, ⟨_, hid_same.seq q⟩, k _ (itok_list q r)⟩
    | _ => cases ek) q
theorem si_tup (he : SE X e ma) : SI X tg e (I.tup ma) := (pi_tup he).imp fun σ H R q => seq_start (k := fun d => match d with | .tup ds => some ds | _ => none) (fun sl ds sl' e => by
    obtain ⟨o, s1, e1, e2⟩ := bind_ok e
    cases e3 : settle1 o s1 with
    | none => rw [e3] at e2; cases e2
    | some p =>
      obtain ⟨d, s2⟩ := p
      rw [e3] at e2
      cases d with
      | tup _ => cases e2; exact ⟨o, s1, _, e1, e3, rfl⟩
      | _ => cases e2) (fun O W H' d v ds rd ek k => by
    cases d with
    | tup _ =>
      cases ek
      cases rd with
      | tup q r => exact ⟨_, rfl, ⟨_, SqT.of (hid_same _ _ q)⟩, k _ (itok_tup (SqT.of q) r)⟩
    | _ => cases ek) q
theorem si_str (he : SE X e ma) : SI X tg e (I.str ma) := (pi_str he).imp fun σ H R q => seq_start (k := fun d => match d with | .str x => some (chars x) | _ => none) (fun sl ds sl' e => by
    obtain ⟨o, s1, e1, e2⟩ := bind_ok e
    cases e3 : settle1 o s1 with
    | none => rw [e3] at e2; cases e2
    | some p =>
      obtain ⟨d, s2⟩ := p
      rw [e3] at e2
      cases d with
      | str _ => cases e2; exact ⟨o, s1, _, e1, e3, rfl⟩
      | _ => cases e2) (fun O W H' d v ds rd ek k => by
    cases d with
    | str _ =>
      cases ek
      cases rd with
      | str x => exact ⟨_, rfl, k _ itok_str⟩
    | _ => cases ek) q
theorem rws1 {d : DV} {vs : List V} (r : RWs K G H [d] vs) : ∃ v, vs = [v] ∧ RW K G H d v := by
  cases r with | cons a b => cases b; exact ⟨_, rfl, a⟩
theorem rws2 {d e : DV} {vs : List V} (r : RWs K G H [d, e] vs) : ∃ v w, vs = [v, w] ∧ RW K G H d v ∧ RW K G H e w := by
  cases r with | cons a b => cases b with | cons b c => cases c; exact ⟨_, _, rfl, a, b⟩
theorem rws3 {d e f : DV} {vs : List V} (r : RWs K G H [d, e, f] vs) : ∃ v w x, vs = [v, w, x] ∧ RW K G H d v ∧ RW K G H e w ∧ RW K G H f x := by
  cases r with | cons a b => cases b with | cons b c => cases c with | cons c d => cases d; exact ⟨_, _, _, rfl, a, b, c⟩
theorem Tr.noF {W W' : Own} {H H' : Hp} {f : Addr → Prop} (t : Tr W H W' f H') : Tr W H W' nof H' := t.drop
theorem si_rng1 {a : Expr} {ms : AM} (hm : X.mg "range" = none) (ha : SA X [a] ms) (hg : Gl X "range" := by rfl) (hs : starEach [a] X.env = [(false, eval a X.env)] := by rfl) : SI X tg (.Call (.Name "range" p) [a] [] pos) (I.rng1 ms) := (pi_range1 hg hm ha hs).imp fun σ H R q => by
  obtain ⟨O, W, sl, ds, sl', x, e, q⟩ := tI_of q
  obtain ⟨os, s1, e1, e2⟩ := bind_ok e
  refine tAs_mk x e1 fun W1 F1 vs H1 t1 x1 r1 n1 => ?_
  cases e3 : views s1 os with
  | none => rw [e3] at e2; cases e2
  | some ws =>
    rw [e3] at e2
    match ws, e3, e2 with
    | [.int n], e3, e2 =>
      simp only at e2
      by_cases hb : small62 n
      · rw [if_pos hb] at e2
        cases e2
        obtain ⟨v, rfl, rv⟩ := rws1 (ROps.toWs (ds := []) x1 r1 e3)
        refine ⟨n, by rw [rw_int rv], hb.1, hb.2, q W1 H1 _ t1.noF (x1.less fun a h => .inl h) ?_⟩
        have := itok_rng (K := X.K) (G := gr O W1 H1) (lo := 0) (n := n.toNat)
        simpa using this
      · rw [if_neg hb] at e2; cases e2
theorem si_rng2 {a b : Expr} {ms : AM} (hm : X.mg "range" = none) (ha : SA X [a, b] ms) (hg : Gl X "range" := by rfl) (hs : starEach [a, b] X.env = [(false, eval a X.env), (false, eval b X.env)] := by rfl) (hs2 : starEach [b] X.env = [(false, eval b X.env)] := by rfl) : SI X tg (.Call (.Name "range" p) [a, b] [] pos) (I.rng2 ms) := (pi_range2 hg hm ha hs hs2).imp fun σ H R q => by
  obtain ⟨O, W, sl, ds, sl', x, e, q⟩ := tI_of q
  obtain ⟨os, s1, e1, e2⟩ := bind_ok e
  refine tAs_mk x e1 fun W1 F1 vs H1 t1 x1 r1 n1 => ?_
  cases e3 : views s1 os with
  | none => rw [e3] at e2; cases e2
  | some ws =>
    rw [e3] at e2
    match ws, e3, e2 with
    | [.int n, .int m], e3, e2 =>
      simp only at e2
      by_cases hb : small62 n ∧ small62 m
      · rw [if_pos hb] at e2
        cases e2
        obtain ⟨v, w, rfl, rv, rw'⟩ := rws2 (ROps.toWs (ds := []) x1 r1 e3)
        exact ⟨n, m, by rw [rw_int rv, rw_int rw'], ⟨hb.1.1, hb.1.2, hb.2.1, hb.2.2⟩, q W1 H1 _ t1.noF (x1.less fun a h => .inl h) itok_rng⟩
      · rw [if_neg hb] at e2; cases e2
theorem si_enum {e : Expr} {elts : List Expr} {kk : Nat} {tpos : Pos} {ms : AM} (hm : X.mg "enumerate" = none) (ha : SA X [e] ms) (hg : Gl X "enumerate" := by rfl) (hs : starEach [e] X.env = [(false, eval e X.env)] := by rfl) :
    SI X (.Tuple elts kk tpos) (.Call (.Name "enumerate" p) [e] [] pos) (I.enum ms) := (pi_enum hg hm ha hs).imp fun σ H R q => by
  obtain ⟨O, W, sl, ds, sl', x, e, q⟩ := tI_of q
  obtain ⟨os, s1, e1, e2⟩ := bind_ok e
  refine tAs_mk x e1 fun W1 F1 vs H1 t1 x1 r1 n1 => ?_
  cases e3 : settle os s1 with
  | none => rw [e3] at e2; cases e2
  | some pr =>
    obtain ⟨ws, s2⟩ := pr
    rw [e3] at e2
    match ws, e3, e2 with
    | [.lst es], e3, e2 =>
      cases e2
      obtain ⟨W2, x2, rd, sh⟩ := settle_ok os s1 _ _ W1 F1 vs e3 x1 r1 n1
      cases rd with
      | cons rd r0 =>
        cases r0
        cases rd with
        | lst h r => exact ⟨_, _, rfl, hid_same.seq (SqL.of h), q W2 H1 _ (tr_shr t1.noF sh) x2 (itok_enum (SqL.of h) r)⟩
end

/-! ### for, while -/
def loop (p : Pat) (b : SM) : List DV → SM
  | [], sl => .nx sl
  | d :: ds, sl => match bindP p d sl with
    | none => .stuck
    | some sl => match b sl with
      | .nx sl => loop p b ds sl
      | .ct sl => loop p b ds sl
      | .bk sl => .nx sl
      | r => r
def S.forr (it : IM) (p : Pat) (b : SM) : SM := fun sl => (it sl).s fun ds sl => loop p b ds sl
def whl (c : TM) (b : SM) : Nat → SM
  | 0, _ => .stuck
  | n + 1, sl => match c sl with
    | .ok true sl => (match b sl with
      | .nx sl => whl c b n sl
      | .ct sl => whl c b n sl
      | .bk sl => .nx sl
      | r => r)
    | .ok false sl => .nx sl
    | _ => .stuck
open Classical in
noncomputable def S.whl (c : TM) (b : SM) : SM := fun sl => if h : ∃ n, Sy.whl c b n sl ≠ .stuck then Sy.whl c b (Classical.choose h) sl else .stuck
theorem whl_mono {c : TM} {b : SM} : ∀ (n k : Nat) (sl : Sl), whl c b n sl ≠ .stuck → whl c b (n + k) sl = whl c b n sl
  | 0, k, sl, h => absurd rfl h
  | n + 1, k, sl, h => by
    have e : n + 1 + k = (n + k) + 1 := by omega
    rw [e]
    unfold whl at h ⊢
    cases hc : c sl with
    | ok t s =>
      rw [hc] at h
      cases t with
      | false => rfl
      | true =>
        simp only at h ⊢
        cases hb : b s with
        | nx s2 => rw [hb] at h; exact whl_mono n k s2 h
        | ct s2 => rw [hb] at h; exact whl_mono n k s2 h
        | bk _ => rfl
        | ret _ _ => rfl
        | exc _ _ => rfl
        | stuck => rfl
    | exc _ _ => rfl
    | stuck => rfl
/-- what a while does, by any number of turns that is enough -/
theorem whl_eq {c : TM} {b : SM} {sl : Sl} {r : SRes} (n : Nat) (h : whl c b n sl = r) (hr : r ≠ .stuck) : S.whl c b sl = r := by
  have ex : ∃ n, whl c b n sl ≠ .stuck := ⟨n, by rw [h]; exact hr⟩
  unfold S.whl
  rw [dif_pos ex]
  have h2 := Classical.choose_spec ex
  rcases Nat.le_total n (Classical.choose ex) with l | l
  · obtain ⟨k, ek⟩ := Nat.exists_eq_add_of_le l
    rw [ek, whl_mono n k sl (by rw [h]; exact hr), h]
  · obtain ⟨k, ek⟩ := Nat.exists_eq_add_of_le l
    have := whl_mono (Classical.choose ex) k sl h2
    rw [← ek, h] at this
    exact this.symm
section
variable {X : Cx} {as : List Nat} {pos : Pos} {Wx : WX}
theorem for_imp {K : PySem.W.Frag} {it : IM} {p : Pat} {b : SM} {D : Ends} {σ : L2.St} {H : Hp} (q : tS K Wx (S.forr it p b) as D σ H) : tFor (tI K it) (tG K p as) (tS K Wx b as) D σ H := by
  obtain ⟨O, W, sl, x, q⟩ := q
  obtain ⟨ds, s1, e1, q⟩ := post_ok q
  refine ⟨O, W, sl, x, ?_⟩
  rw [e1]
  intro W1 H1 J t1 x1 itok
  refine ⟨fun i m σ' H' => m = ds.length - i ∧ i ≤ ds.length ∧ ∃ W' sl', Sim K O W' sl' σ' H' ∧ Tr W1 H1 W' nof H' ∧ PostS K Wx O W' H' σ' as D (loop p b (ds.drop i) sl'), ⟨_, rfl, Nat.zero_le _, W1, s1, x1, Tr.refl, q.go t1 Agr.refl⟩, ?_⟩
  rintro i m σ' H' ⟨rfl, hi, W', sl', x', t', q'⟩
  obtain ⟨go, stop⟩ := itok i H' (own O W') (fun a => x'.ownAlive) (gr_tr t' fun a h => .inl h)
  by_cases hlt : i < ds.length
  · obtain ⟨g1, g2⟩ := go hlt
    refine .inr ⟨g1, fun σ2 H2 => ∃ W2 sl2, Sim K O W2 sl2 σ2 H2 ∧ Tr W1 H1 W2 nof H2 ∧ PostS K Wx O W2 H2 σ2 as D (loop p b (ds.drop (i + 1)) sl2), fun σ2 H2 ⟨W2, sl2, y1, y2, y3⟩ => ⟨ds.length - (i + 1), by omega, rfl, hlt, W2, sl2, y1, y2, y3⟩, fun y H2 hy => ?_⟩
    obtain ⟨sm, d, ed, rd⟩ := g2 y H2 hy
    have hd : ds.drop i = d :: ds.drop (i + 1) := by
      rw [List.drop_eq_getElem_cons hlt]
      have : ds[i] = d := by
        rw [List.getElem?_eq_getElem hlt] at ed
        exact Option.some.inj ed
      rw [this]
    rw [hd] at q'
    unfold loop at q'
    have x2 : Sim K O W' sl' σ' H2 := x'.grow sm (fun a h => .inl h) fun a h => by
      obtain ⟨o, e⟩ := x'.al a h
      exact ⟨o, sm a o e⟩
    have t2 : Tr W' H' W' nof H2 := Tr.ofSame sm fun _ h => h.elim
    cases eb : bindP p d sl' with
    | none => rw [eb] at q'; exact q'.elim
    | some s3 =>
      rw [eb] at q'
      refine ⟨O, W', sl', d, s3, x2, rd, eb, fun W3 σ3 x3 sh3 a3 => ⟨O, W3, s3, x3, ?_⟩⟩
      have t3 : Tr W' H' W3 nof H2 := tr_shr t2 sh3
      simp only at q'
      cases e4 : b s3 with
      | nx s4 =>
        rw [e4] at q'
        exact fun W4 σ4 H4 t4 x4 a4 => ⟨W4, s4, x4, t'.trans (t3.trans t4), q'.go (t3.trans t4) (a3.trans a4)⟩
      | ct s4 =>
        rw [e4] at q'
        exact fun W4 σ4 H4 t4 x4 a4 => ⟨W4, s4, x4, t'.trans (t3.trans t4), q'.go (t3.trans t4) (a3.trans a4)⟩
      | bk s4 =>
        rw [e4] at q'
        exact fun W4 σ4 H4 t4 x4 a4 => q' W4 σ4 H4 (t3.trans t4) x4 (a3.trans a4)
      | ret m s4 =>
        rw [e4] at q'
        exact q'.go t3 a3
      | exc _ _ =>
        rw [e4] at q'
        exact q'.go t3 a3
      | stuck => rw [e4] at q'; exact q'.elim
  · have e : i = ds.length := by omega
    subst e
    rw [List.drop_length] at q'
    exact .inl ⟨stop (Nat.le_refl _), q' W' σ' H' Tr.refl x' Agr.refl⟩
theorem ss_for {tg iter : Expr} {body : List Stmt} {it : IM} {p : Pat} {b : SM} (hp : PassesOwn (model X.prog X.w) X.A X.env X.xe) (hc : X.calm = true) (hi : SI X tg iter it) (hg : SG X tg p as) (hb : SSs X body b as)
    (hs : ∀ x, foldedSetIterable iter X.env x = pure x := by intro _; rfl) : SS X (.For tg iter body [] pos) (S.forr it p b) as := fun Wx tk => (ps_for hp hc hi hg (hb Wx tk) hs).imp fun D σ H q => for_imp q
theorem whl_imp {K : PySem.W.Frag} {c : TM} {b : SM} {D : Ends} {σ : L2.St} {H : Hp} (q : tS K Wx (S.whl c b) as D σ H) : tWhile (tT K c) (tS K Wx b as) D σ H := by
  obtain ⟨O, W, sl, x, q⟩ := q
  have : ∃ n, PostS K Wx O W H σ as D (Sy.whl c b n sl) := by
    unfold S.whl at q
    by_cases h : ∃ n, Sy.whl c b n sl ≠ .stuck
    · rw [dif_pos h] at q; exact ⟨_, q⟩
    · rw [dif_neg h] at q; exact q.elim
  obtain ⟨n0, q⟩ := this
  refine ⟨fun n σ' H' => ∃ W' sl', Sim K O W' sl' σ' H' ∧ PostS K Wx O W' H' σ' as D (Sy.whl c b n sl'), ⟨n0, W, sl, x, q⟩, ?_⟩
  rintro n σ' H' ⟨W', sl', x', q'⟩
  cases n with
  | zero => exact q'.elim
  | succ n =>
    unfold Sy.whl at q'
    cases ec : c sl' with
    | exc _ _ => rw [ec] at q'; exact q'.elim
    | stuck => rw [ec] at q'; exact q'.elim
    | ok t s1 =>
      rw [ec] at q'
      refine tT_mk x' ec fun W1 H1 t1 x1 => ?_
      cases t with
      | false =>
        rw [if_neg Bool.false_ne_true]
        exact q' W1 σ' H1 t1 x1 Agr.refl
      | true =>
        rw [if_pos rfl]
        simp only at q'
        refine ⟨fun σ2 H2 => ∃ W2 sl2, Sim K O W2 sl2 σ2 H2 ∧ PostS K Wx O W2 H2 σ2 as D (Sy.whl c b n sl2), fun σ2 H2 h => ⟨n, Nat.lt_succ_self n, h⟩, O, W1, s1, x1, ?_⟩
        cases eb : b s1 with
        | nx s4 =>
          rw [eb] at q'
          exact fun W4 σ4 H4 t4 x4 a4 => ⟨W4, s4, x4, q'.go (t1.trans t4) a4⟩
        | ct s4 =>
          rw [eb] at q'
          exact fun W4 σ4 H4 t4 x4 a4 => ⟨W4, s4, x4, q'.go (t1.trans t4) a4⟩
        | bk s4 =>
          rw [eb] at q'
          exact q'.go t1 Agr.refl
        | ret m s4 =>
          rw [eb] at q'
          exact q'.go t1 Agr.refl
        | exc _ _ =>
          rw [eb] at q'
          exact q'.go t1 Agr.refl
        | stuck => rw [eb] at q'; exact q'.elim
theorem ss_while {c : Expr} {body : List Stmt} {tc : TM} {b : SM} (hp : PassesOwn (model X.prog X.w) X.A X.env X.xe) (hc : ST X c tc) (hb : SSs X body b as) : SS X (.While c body [] pos) (S.whl tc b) as := fun Wx tk => (ps_while hp hc (hb Wx tk)).imp fun D σ H q => whl_imp q
end

theorem RM.rdv {K : PySem.W.Frag} {G H : Hp} {d : DV} {v : V} {f : List Addr} (r : RM K G H (.val d) v f) : RD K G d v := by
  cases r with | val q => exact q
/-! ### a def -/
inductive FRes where
  | ok (r : MV) (ms : List MV) | exc (x : Exc) (ms : List MV) | stuck
abbrev FM := List MV → FRes
def keepv : MV → Option MV
  | .val d => some (.val d)
  | _ => none
def outs (as : List Nat) (sl : Sl) : Nat → List MV → Option (List MV)
  | _, [] => some []
  | j, m :: ms => match (if as.contains j then keepv m else sl[j]?.join), outs as sl (j + 1) ms with
    | some m', some ms' => some (m' :: ms')
    | _, _ => none
def fn (n k : Nat) (as : List Nat) (b : SM) : FM := fun ms => if ms.length = n then (match b (ms.map some ++ List.replicate k none) with
    | .nx sl => (match outs as sl 0 ms with
      | some ms' => .ok (.val .non) ms'
      | none => .stuck)
    | .ret m sl => (match outs as sl 0 ms with
      | some ms' => .ok m ms'
      | none => .stuck)
    | .exc x sl => (match outs as sl 0 ms with
      | some ms' => .exc x ms'
      | none => .stuck)
    | _ => .stuck) else .stuck
def spF (K : PySem.W.Frag) (n : Nat) (g : FM) : Sp := fun vs H Q E => vs.length = n ∧ ∃ O W ms, Sim K O W (ms.map some) (vs.map some) H ∧ match g ms with
  | .ok r ms' => ∀ (W' : Own) (f : List Addr) (v : V) (H' : Hp), Tr W H W' (· ∈ f) H' → Sim K (plus O f) W' (ms'.map some) (vs.map some) H' → RM K (gr (plus O f) W' H') H' r v f → (∀ a ∈ f, ¬ O a) → Q v H'
  | _ => False
/-- .. of a def that may raise -/
def spX (K : PySem.W.Frag) (n : Nat) (g : FM) : Sp := fun vs H Q E => vs.length = n ∧ ∃ O W ms, Sim K O W (ms.map some) (vs.map some) H ∧ match g ms with
  | .ok r ms' => ∀ (W' : Own) (f : List Addr) (v : V) (H' : Hp), Tr W H W' (· ∈ f) H' → Sim K (plus O f) W' (ms'.map some) (vs.map some) H' → RM K (gr (plus O f) W' H') H' r v f → (∀ a ∈ f, ¬ O a) → Q v H'
  | .exc x ms' => ∀ (W' : Own) (H' : Hp) (cls : Value) (d : Option Addr), Tr W H W' nof H' → Sim K O W' (ms'.map some) (vs.map some) H' → RX K (gr O W' H') x cls d → E cls d H'
  | .stuck => False
theorem spF_X {K : PySem.W.Frag} {n : Nat} {g : FM} {vs : List V} {H : Hp} {Q : VK} {E : XK} (h : spF K n g vs H Q E) (E' : XK) : spX K n g vs H Q E' := by
  obtain ⟨hv, O, W, ms, x, q⟩ := h
  refine ⟨hv, O, W, ms, x, ?_⟩
  cases e : g ms with
  | ok r ms' => rw [e] at q; exact q
  | exc _ _ => rw [e] at q; exact q.elim
  | stuck => rw [e] at q; exact q.elim
theorem outs_get {as : List Nat} {sl : Sl} : ∀ (ms : List MV) (j : Nat) (ms' : List MV), outs as sl j ms = some ms' → ms'.length = ms.length ∧ ∀ i m', ms'[i]? = some m' → (as.contains (j + i) = true ∧ ms[i]? = some m' ∧ ∃ d, m' = .val d) ∨ (as.contains (j + i) = false ∧ sl[j + i]? = some (some m'))
  | [], j, ms', h => by
    unfold outs at h
    cases h
    exact ⟨rfl, fun i m' h => by simp at h⟩
  | m :: ms, j, ms', h => by
    unfold outs at h
    cases h1 : (if as.contains j = true then keepv m else sl[j]?.join) with
    | none => rw [h1] at h; cases h
    | some m1 =>
      cases h2 : outs as sl (j + 1) ms with
      | none => rw [h1, h2] at h; cases h
      | some ms2 =>
        rw [h1, h2] at h
        cases h
        obtain ⟨l, g⟩ := outs_get ms (j + 1) ms2 h2
        refine ⟨by simp [l], fun i m' hi => ?_⟩
        cases i with
        | zero =>
          simp at hi
          subst hi
          by_cases hc : as.contains j = true
          · rw [if_pos hc] at h1
            cases m with
            | val d => cases h1; exact .inl ⟨by simpa using hc, rfl, d, rfl⟩
            | lst _ => cases h1
            | obj _ _ _ => cases h1
            | dct _ _ => cases h1
            | bo _ _ _ _ _ _ => cases h1
          · rw [if_neg hc] at h1
            refine .inr ⟨by simpa using hc, ?_⟩
            rw [Nat.add_zero]
            revert h1
            cases sl[j]? with
            | none => intro h1; cases h1
            | some y => intro h1; simp at h1; rw [h1]
        | succ i =>
          have := g i m' (by simpa using hi)
          have e : j + 1 + i = j + (i + 1) := by omega
          rw [e] at this
          simpa using this
theorem start_get {k : Nat} {m : MV} {ms : List MV} {j : Nat} : (ms.map some ++ List.replicate k (none : Option MV))[j]? = some (some m) ↔ (ms.map some)[j]? = some (some m) := by
  by_cases h : j < ms.length
  · rw [List.getElem?_append_left (by simpa using h)]
  · rw [List.getElem?_append_right (by simpa using h)]
    have h2 : (ms.map some)[j]? = none := by simp; omega
    rw [h2]
    simp [List.getElem?_replicate]
section
variable {P : Program} {w : World} {K : PySem.W.Frag} {mg : Str → Option Value} {base : Heap}
theorem fn_bodyX {N : List Str} {n k : Nat} {as : List Nat} {b : SM} {vs : List V} {H : Hp} {Q : VK} {E : XK} (hN : N.length = n + k) (h : spX K n (fn n k as b) vs H Q E) : tS K (fun cls d _ H' => E cls d H') b as { nx := fun _ H' => Q .non H', rt := Q } (L2.start N vs) H := by
  obtain ⟨hv, O, W, ms, x, q⟩ := h
  have hms : ms.length = n := by have := x.len; simp at this; omega
  have hst : L2.start N vs = vs.map some ++ List.replicate k none := by
    unfold L2.start
    rw [hN, hv, Nat.add_sub_cancel_left]
  rw [hst]
  have vget : ∀ {j : Nat} {v : V}, (vs.map some)[j]? = some (some v) → (vs.map some ++ List.replicate k none)[j]? = some (some v) := fun {j v} h => by
    rw [List.getElem?_append_left (List.getElem?_eq_some_iff.mp h).1]; exact h
  refine ⟨O, W, ms.map some ++ List.replicate k none, ⟨fun j m e => ?_, fun j h => x.no j fun m e => h m (start_get.mpr e), x.inj, x.dis, x.al, by simp [hms, hv]⟩, ?_⟩
  · obtain ⟨v, e1, r⟩ := x.at_ j m (start_get.mp e)
    exact ⟨v, vget e1, r⟩
  · unfold fn at q
    rw [if_pos hms] at q
    -- the end, whatever is handed back
    have fin : ∀ (sl' : Sl) (ms' : List MV), outs as sl' 0 ms = some ms' → ∀ (W' : Own) (f : List Addr) (σ' : L2.St) (H' : Hp) (m : MV) (v : V), Tr W H W' (· ∈ f) H' → Sim K (plus O f) W' sl' σ' H' → RM K (gr (plus O f) W' H') H' m v f → Agr as (vs.map some ++ List.replicate k none) σ' →
        ∃ W2, Tr W H W2 (· ∈ f) H' ∧ Sim K (plus O f) W2 (ms'.map some) (vs.map some) H' ∧ RM K (gr (plus O f) W2 H') H' m v f ∧ ∀ i a, a ∈ W2 i → a ∈ W' i := by
      intro sl' ms' eo W' f σ' H' m v t' x' r' a'
      obtain ⟨lo, go⟩ := outs_get ms 0 ms' eo
      have sub : ∀ j a, a ∈ (fun j => if j < n ∧ as.contains j = false then W' j else []) j → a ∈ W' j := fun j a h => by
        by_cases hj : j < n ∧ as.contains j = false
        · simp only [if_pos hj] at h; exact h
        · simp only [if_neg hj] at h; simp at h
      have hG := gs_same (O := plus O f) (H := H') sub
      refine ⟨fun j => if j < n ∧ as.contains j = false then W' j else [], tr_shr t' sub, ⟨fun j m1 e => ?_, fun j h => ?_, fun i j a h1 h2 => x'.inj i j a (sub i a h1) (sub j a h2), fun j a h => x'.dis j a (sub j a h), x'.al, by simp [lo, hms, hv]⟩, r'.mono hG fun _ _ _ h => h, sub⟩
      · have e' : ms'[j]? = some m1 := by
          rw [List.getElem?_map] at e
          cases h : ms'[j]? with
          | none => rw [h] at e; cases e
          | some y => rw [h] at e; simp at e; rw [e]
        have hjn : j < n := by
          have := (List.getElem?_eq_some_iff.mp e').1
          omega
        rcases go j m1 e' with ⟨c, e2, d, rfl⟩ | ⟨c, e2⟩
        · rw [Nat.zero_add] at c
          have e3 : (ms.map some)[j]? = some (some (.val d)) := by rw [List.getElem?_map, e2]; rfl
          obtain ⟨v0, ev, r0⟩ := x.at_ j _ e3
          refine ⟨v0, ev, ?_⟩
          simp only [c, Bool.true_eq_false, and_false, if_false]
          exact .val ((r0.rdv.up (gr_tr t' (O1 := plus O f) fun a h => h)).up hG)
        · rw [Nat.zero_add] at c e2
          obtain ⟨v0, ev, r0⟩ := x'.at_ j m1 e2
          have hj : j ∉ as := fun z => by simp [z] at c
          have hv0 : (vs.map some)[j]? = some (some v0) := by
            have := a' j hj
            rw [ev] at this
            rw [List.getElem?_append_left (by simpa [hv] using hjn)] at this
            exact this.symm
          refine ⟨v0, hv0, ?_⟩
          simp only [hjn, c, and_self, if_true]
          exact r0.mono hG fun _ _ _ h => h
      · by_cases hj : j < n
        · have hjm : j < ms'.length := by omega
          have : (ms'.map some)[j]? = some (some ms'[j]) := by rw [List.getElem?_map, List.getElem?_eq_getElem hjm]; rfl
          exact absurd this (h _)
        · simp [hj]
    cases eb : b (ms.map some ++ List.replicate k none) with
    | nx sl' =>
      rw [eb] at q
      simp only at q
      cases eo : outs as sl' 0 ms with
      | none => rw [eo] at q; exact q.elim
      | some ms' =>
        rw [eo] at q
        intro W' σ' H' t' x' a'
        have x2 : Sim K (plus O []) W' sl' σ' H' := x'.less fun a h => h.elim id fun h => by simp at h
        obtain ⟨W2, y1, y2, y3, y4⟩ := fin sl' ms' eo W' [] σ' H' (.val .non) .non (t'.less fun a h => by simp at h) x2 (.val .non) a'
        exact q W2 [] .non H' y1 y2 y3 fun a h => by simp at h
    | ret m sl' =>
      rw [eb] at q
      simp only at q
      cases eo : outs as sl' 0 ms with
      | none => rw [eo] at q; exact q.elim
      | some ms' =>
        rw [eo] at q
        intro W' f v σ' H' t' x' r' n' a'
        obtain ⟨W2, y1, y2, y3, y4⟩ := fin sl' ms' eo W' f σ' H' m v t' x' r' a'
        exact q W2 f v H' y1 y2 y3 n'
    | bk _ => rw [eb] at q; exact q.elim
    | ct _ => rw [eb] at q; exact q.elim
    | exc y sl' =>
      rw [eb] at q
      simp only at q
      cases eo : outs as sl' 0 ms with
      | none => rw [eo] at q; exact q.elim
      | some ms' =>
        rw [eo] at q
        intro W' σ' H' cls d t' x' a' rx
        have x2 : Sim K (plus O []) W' sl' σ' H' := x'.less fun a h => h.elim id fun h => by simp at h
        obtain ⟨W2, y1, y2, y3, y4⟩ := fin sl' ms' eo W' [] σ' H' (.val .non) .non (t'.less fun a h => by simp at h) x2 (.val .non) a'
        refine q W2 H' cls d (y1.less fun a h => h.elim) (y2.less fun a h => .inl h) ?_
        exact rx.up (gs_same y4)
    | stuck => rw [eb] at q; exact q.elim
theorem fn_body {N : List Str} {n k : Nat} {as : List Nat} {b : SM} {vs : List V} {H : Hp} {Q : VK} {E : XK} (hN : N.length = n + k) (h : spF K n (fn n k as b) vs H Q E) : tS K (fun _ _ _ _ => False) b as { nx := fun _ H' => Q .non H', rt := Q } (L2.start N vs) H := fn_bodyX (E := fun _ _ _ => False) hN (spF_X h _)
/-- THE RULE for a def -/
theorem ok_fn {x qual : Str} {st : Stmt} {f : Addr} {fd : FuncData} {N ps : List Str} {lv n k : Nat} {as : List Nat} {b : SM} (F : Fun K x qual st f fd) (S : FnScope N ps (defScope st)) (hn : ps.length = n) (hN : N.length = n + k)
    (hb : ∀ (X : Cx) (cdv : Value) (A : Around) (outer : List Env) (s : Shared) (H : Hp) (E : XK), X = (cxOf CX0 P w K mg base N qual (defScope st) f cdv A outer s H E).nox → Room lv X.A → SSs X (defBody st) b as) : FnOk P w K mg base CX0 (lv + 1) f fd ps (spF K n (fn n k as b)) := by
  refine F.ok S (fun vs H Q E h => by rw [hn]; exact h.1) (fun cdv A outer s H vs Q E hr h => ?_)
  exact ⟨_, hb _ cdv A outer s H E rfl hr _ takes0, fn_body hN h⟩
/-- .. for a def that may raise -/
theorem ok_fnX {x qual : Str} {st : Stmt} {f : Addr} {fd : FuncData} {N ps : List Str} {lv n k : Nat} {as : List Nat} {b : SM} (F : Fun K x qual st f fd) (S : FnScope N ps (defScope st)) (hn : ps.length = n) (hN : N.length = n + k)
    (hb : ∀ (X : Cx) (cdv : Value) (A : Around) (outer : List Env) (s : Shared) (H : Hp) (E : XK), X = cxOf (L2.CX P w) P w K mg base N qual (defScope st) f cdv A outer s H E → Room lv X.A → SSs X (defBody st) b as) : FnOk P w K mg base (L2.CX P w) (lv + 1) f fd ps (spX K n (fn n k as b)) := by
  refine F.okX S (fun vs H Q E h => by rw [hn]; exact h.1) (fun cdv A outer s H vs Q E hr h => ?_)
  exact ⟨_, hb _ cdv A outer s H E rfl hr _ (takes_of rfl rfl rfl rfl), fn_bodyX hN h⟩
end
end Sy
namespace Sy
open PySem PySem.Spec PyProof.Rows L2

/-! ### calls of defs -/
def conts (sl : Sl) : List Op → Option (List MV)
  | [] => some []
  | o :: os => match o.cont sl, conts sl os with
    | some m, some ms => some (m :: ms)
    | _, _ => none
def isOwn (sl : Sl) (i : Nat) : Bool := match sl[i]? with
  | some (some (.lst _)) => true
  | some (some (.obj _ _ _)) => true
  | some (some (.dct _ _)) => true
  | some (some (.bo _ _ _ _ _ _)) => true
  | _ => false
def ownSl (sl : Sl) : List Op → List Nat
  | [] => []
  | .tmp _ :: os => ownSl sl os
  | .pl i :: os => if isOwn sl i then i :: ownSl sl os else ownSl sl os
def giveb (sl0 : Sl) : List Op → List MV → Sl → Sl
  | .pl i :: os, m :: ms, sl => if isOwn sl0 i then giveb sl0 os ms (sl.set i (some m)) else giveb sl0 os ms sl
  | .tmp _ :: os, _ :: ms, sl => giveb sl0 os ms sl
  | _, _, sl => sl
def E.call (n : Nat) (g : FM) (as : AM) : EM := fun sl => (as sl).bind fun os sl => match conts sl os with
  | some ms => if os.length = n ∧ (ownSl sl os).Nodup then (match g ms with
    | .ok r ms' => if ms'.length = n then .ok (.tmp r) (giveb sl os ms' sl) else .stuck
    | _ => .stuck) else .stuck
  | none => .stuck
theorem mem_ownSl {sl : Sl} {i : Nat} : ∀ {os : List Op}, i ∈ ownSl sl os ↔ ∃ j : Nat, os[j]? = some (.pl i) ∧ isOwn sl i = true
  | [] => by simp [ownSl]
  | .tmp m :: os => by
    unfold ownSl
    rw [mem_ownSl (os := os)]
    constructor
    · rintro ⟨j, h1, h2⟩
      exact ⟨j + 1, by simpa using h1, h2⟩
    · rintro ⟨j, h1, h2⟩
      cases j with
      | zero => simp at h1
      | succ j => exact ⟨j, by simpa using h1, h2⟩
  | .pl k :: os => by
    unfold ownSl
    by_cases hk : isOwn sl k = true
    · rw [if_pos hk, List.mem_cons, mem_ownSl (os := os)]
      constructor
      · rintro (h | ⟨j, h1, h2⟩)
        · subst h; exact ⟨0, rfl, hk⟩
        · exact ⟨j + 1, by simpa using h1, h2⟩
      · rintro ⟨j, h1, h2⟩
        cases j with
        | zero => simp at h1; exact .inl h1.symm
        | succ j => exact .inr ⟨j, by simpa using h1, h2⟩
    · rw [if_neg hk, mem_ownSl (os := os)]
      constructor
      · rintro ⟨j, h1, h2⟩
        exact ⟨j + 1, by simpa using h1, h2⟩
      · rintro ⟨j, h1, h2⟩
        cases j with
        | zero => simp at h1; subst h1; exact absurd h2 hk
        | succ j => exact ⟨j, by simpa using h1, h2⟩
theorem ownSl_uniq {sl : Sl} {i : Nat} (hi : isOwn sl i = true) : ∀ {os : List Op} {j k : Nat}, (ownSl sl os).Nodup → os[j]? = some (.pl i) → os[k]? = some (.pl i) → j = k
  | [], _, _, _, h, _ => by simp at h
  | o :: os, 0, 0, _, _, _ => rfl
  | o :: os, 0, k + 1, nd, h1, h2 => by
    simp at h1; subst h1
    unfold ownSl at nd
    rw [if_pos hi] at nd
    exact absurd (mem_ownSl.mpr ⟨k, by simpa using h2, hi⟩) (List.nodup_cons.mp nd).1
  | o :: os, j + 1, 0, nd, h1, h2 => by
    simp at h2; subst h2
    unfold ownSl at nd
    rw [if_pos hi] at nd
    exact absurd (mem_ownSl.mpr ⟨j, by simpa using h1, hi⟩) (List.nodup_cons.mp nd).1
  | o :: os, j + 1, k + 1, nd, h1, h2 => by
    have nd' : (ownSl sl os).Nodup := by
      cases o with
      | tmp m => exact nd
      | pl q =>
        unfold ownSl at nd
        split at nd
        · exact (List.nodup_cons.mp nd).2
        · exact nd
    exact congrArg (· + 1) (ownSl_uniq (os := os) (j := j) (k := k) hi nd' (by simpa using h1) (by simpa using h2))
theorem giveb_len {sl0 : Sl} : ∀ (os : List Op) (ms : List MV) (sl : Sl), (giveb sl0 os ms sl).length = sl.length
  | [], ms, sl => by cases ms <;> rfl
  | .tmp m :: os, [], sl => rfl
  | .tmp m :: os, m' :: ms, sl => giveb_len os ms sl
  | .pl i :: os, [], sl => rfl
  | .pl i :: os, m :: ms, sl => by
    unfold giveb
    split
    · exact (giveb_len os ms _).trans (by simp)
    · exact giveb_len os ms sl
theorem giveb_out {sl0 : Sl} {i : Nat} : ∀ (os : List Op) (ms : List MV) (sl : Sl), (∀ j : Nat, os[j]? = some (.pl i) → isOwn sl0 i = false) → (giveb sl0 os ms sl)[i]? = sl[i]?
  | [], ms, sl, h => by cases ms <;> rfl
  | .tmp m :: os, [], sl, h => rfl
  | .tmp m :: os, m' :: ms, sl, h => giveb_out os ms sl fun j hj => h (j + 1) (by simpa using hj)
  | .pl k :: os, [], sl, h => rfl
  | .pl k :: os, m :: ms, sl, h => by
    unfold giveb
    split
    · rename_i hk
      have : k ≠ i := fun e => by
        subst e
        have := h 0 rfl
        rw [hk] at this; cases this
      exact (giveb_out os ms _ fun j hj => h (j + 1) (by simpa using hj)).trans (List.getElem?_set_ne this)
    · exact giveb_out os ms sl fun j hj => h (j + 1) (by simpa using hj)
theorem giveb_in {sl0 : Sl} {i : Nat} (hi : isOwn sl0 i = true) : ∀ (os : List Op) (ms : List MV) (sl : Sl) (j : Nat) (m : MV), (ownSl sl0 os).Nodup → os[j]? = some (.pl i) → ms[j]? = some m → i < sl.length → (giveb sl0 os ms sl)[i]? = some (some m)
  | [], ms, sl, j, m, nd, h1, h2, hl => by simp at h1
  | .tmp m :: os, [], sl, j, _, nd, h1, h2, hl => by simp at h2
  | .tmp m :: os, m' :: ms, sl, j, _, nd, h1, h2, hl => by
    cases j with
    | zero => simp at h1
    | succ j => exact giveb_in hi os ms sl j _ nd (by simpa using h1) (by simpa using h2) hl
  | .pl k :: os, [], sl, j, _, nd, h1, h2, hl => by simp at h2
  | .pl k :: os, m' :: ms, sl, j, m, nd, h1, h2, hl => by
    unfold giveb
    cases j with
    | zero =>
      simp at h1 h2
      subst h1 h2
      rw [if_pos hi]
      unfold ownSl at nd
      rw [if_pos hi] at nd
      rw [giveb_out os ms _ fun j hj => by
        exfalso
        exact (List.nodup_cons.mp nd).1 (mem_ownSl.mpr ⟨j, hj, hi⟩)]
      exact List.getElem?_set_self hl
    | succ j =>
      unfold ownSl at nd
      split at nd
      · rename_i hk
        rw [if_pos hk]
        exact giveb_in hi os ms _ j m (List.nodup_cons.mp nd).2 (by simpa using h1) (by simpa using h2) (by simpa using hl)
      · rename_i hk
        rw [if_neg hk]
        exact giveb_in hi os ms _ j m nd (by simpa using h1) (by simpa using h2) hl
theorem conts_get {sl : Sl} : ∀ {os : List Op} {ms : List MV}, conts sl os = some ms → ms.length = os.length ∧ ∀ (j : Nat) m, ms[j]? = some m → ∃ o, os[j]? = some o ∧ o.cont sl = some m
  | [], ms, h => by
    unfold conts at h
    cases h
    exact ⟨rfl, fun j m h => by simp at h⟩
  | o :: os, ms, h => by
    unfold conts at h
    cases h1 : o.cont sl with
    | none => rw [h1] at h; cases h
    | some m =>
      cases h2 : conts sl os with
      | none => rw [h1, h2] at h; cases h
      | some ms2 =>
        rw [h1, h2] at h
        cases h
        obtain ⟨l, g⟩ := conts_get h2
        refine ⟨by simp [l], fun j m' hj => ?_⟩
        cases j with
        | zero => simp at hj; subst hj; exact ⟨o, rfl, h1⟩
        | succ j =>
          obtain ⟨o', e1, e2⟩ := g j m' (by simpa using hj)
          exact ⟨o', by simpa using e1, e2⟩
theorem join_some {sl : Sl} {i : Nat} {m : MV} (h : sl[i]?.join = some m) : sl[i]? = some (some m) := by
  cases e : sl[i]? with
  | none => rw [e] at h; cases h
  | some y => rw [e] at h; simp at h; rw [h]
theorem Sim.ownList {K : PySem.W.Frag} {O : Addr → Prop} {W : Own} {sl : Sl} {σ : L2.St} {H : Hp} {i : Nat} {a : Addr} (x : Sim K O W sl σ H) (h : a ∈ W i) : isOwn sl i = true := by
  by_cases e : ∃ m, sl[i]? = some (some m)
  · obtain ⟨m, e⟩ := e
    obtain ⟨v, _, r⟩ := x.at_ i m e
    generalize W i = w at r h
    cases r with
    | val _ => simp at h
    | lst _ _ => simp [isOwn, e]
    | obj _ _ _ => simp [isOwn, e]
    | dct _ _ _ => simp [isOwn, e]
    | bo _ _ _ _ _ _ => simp [isOwn, e]
  · rw [x.no i fun m hm => e ⟨m, hm⟩] at h
    simp at h
open Classical in
theorem call_core {K : PySem.W.Frag} {n : Nat} {σ : L2.St} {H H1 : Hp} {O : Addr → Prop} {W W1 F : Own} {s1 : Sl} {os : List Op} {cs : List MV} {vs : List V} (hn : os.length = n) (nd : (ownSl s1 os).Nodup) (ec : conts s1 os = some cs) (t1 : Tr W H W1 (fun a => ∃ j, a ∈ F j) H1)
    (x1 : Sim K (plusF O F) W1 s1 σ H1) (r1 : ROps K (gr (plusF O F) W1 H1) H1 σ os vs F) (n1 : ∀ j, ∀ a ∈ F j, ¬ O a) :
    ∃ (Oc : Addr → Prop) (Wc : Own), Sim K Oc Wc (cs.map some) (vs.map some) H1 ∧ ∀ (Wd : Own) (f : List Addr) (ms' : List MV) (sl2 : Sl) (H2 : Hp), Tr Wc H1 Wd (· ∈ f) H2 → Sim K (plus Oc f) Wd sl2 (vs.map some) H2 → ms'.length = n → (∀ (j i : Nat), os[j]? = some (.pl i) → sl2[j]? = some ms'[j]?) → (∀ a ∈ f, ¬ Oc a) →
      ∃ W2 : Own, Tr W H W2 (· ∈ f) H2 ∧ Sim K (plus O f) W2 (giveb s1 os ms' s1) σ H2 ∧ Same (gr (plus Oc f) Wd H2) (gr (plus O f) W2 H2) ∧ ∀ a ∈ f, ¬ O a := by
  obtain ⟨lc, gc⟩ := conts_get ec
  -- what the callee owns
  let Wc : Own := fun j => match os[j]? with
    | some (.tmp _) => F j
    | some (.pl i) => W1 i
    | none => []
  let Oc : Addr → Prop := fun a => O a ∨ ∃ i, a ∈ W1 i ∧ ∀ j : Nat, os[j]? ≠ some (.pl i)
  have hWc : ∀ j a, a ∈ Wc j → (∃ k, a ∈ F k) ∨ ∃ i, a ∈ W1 i := fun j a h => by
    show _ ∨ _
    simp only [Wc] at h
    split at h
    · exact .inl ⟨j, h⟩
    · exact .inr ⟨_, h⟩
    · simp at h
  have hG : Same (gr (plusF O F) W1 H1) (gr Oc Wc H1) := hid_less fun a h => by
    rcases h with (h | ⟨i, h, _⟩) | ⟨j, h⟩
    · exact .inl (.inl h)
    · exact .inr ⟨i, h⟩
    · rcases hWc j a h with h | h
      · exact .inl (.inr h)
      · exact .inr h
  have xc : Sim K Oc Wc (cs.map some) (vs.map some) H1 := by
    refine ⟨fun j m e => ?_, fun j h => ?_, fun i j a h1 h2 => ?_, fun j a h => ?_, fun a h => ?_, by simp [lc, r1.len]⟩
    · have e' : cs[j]? = some m := by
        rw [List.getElem?_map] at e
        cases h : cs[j]? with
        | none => rw [h] at e; cases e
        | some y => rw [h] at e; simp at e; rw [e]
      obtain ⟨o, eo, ct⟩ := gc j m e'
      obtain ⟨v, ev, r⟩ := r1.at_ j o eo
      refine ⟨v, by rw [List.getElem?_map, ev]; rfl, ?_⟩
      cases o with
      | tmp m' =>
        cases ct
        have : Wc j = F j := by simp only [Wc, eo]
        rw [this]
        generalize F j = fj at r
        cases r with
        | tmp r => exact r.mono hG fun _ _ _ h => h
      | pl i =>
        have : Wc j = W1 i := by simp only [Wc, eo]
        rw [this]
        generalize F j = fj at r
        cases r with
        | pl es => exact (x1.getv (join_some ct) es).mono hG fun _ _ _ h => h
    · have : os[j]? = none := by
        cases h2 : os[j]? with
        | none => rfl
        | some o =>
          have hj : j < cs.length := by rw [lc]; exact (List.getElem?_eq_some_iff.mp h2).1
          exact absurd (show (cs.map some)[j]? = some (some cs[j]) by rw [List.getElem?_map, List.getElem?_eq_getElem hj]; rfl) (h _)
      simp only [Wc, this]
    · simp only [Wc] at h1 h2
      cases e1 : os[i]? with
      | none => rw [e1] at h1; simp at h1
      | some o1 =>
        cases e2 : os[j]? with
        | none => rw [e2] at h2; simp at h2
        | some o2 =>
          rw [e1] at h1; rw [e2] at h2
          cases o1 with
          | tmp _ =>
            cases o2 with
            | tmp _ => exact r1.inj i j a h1 h2
            | pl k => exact absurd (Or.inr ⟨i, h1⟩) (x1.dis k a h2)
          | pl k =>
            cases o2 with
            | tmp _ => exact absurd (Or.inr ⟨j, h2⟩) (x1.dis k a h1)
            | pl k2 =>
              have hk := x1.inj k k2 a h1 h2
              subst hk
              exact ownSl_uniq (x1.ownList h1) nd e1 e2
    · simp only [Wc] at h
      cases e1 : os[j]? with
      | none => rw [e1] at h; simp at h
      | some o1 =>
        rw [e1] at h
        cases o1 with
        | tmp _ =>
          rintro (h2 | ⟨i, h2, _⟩)
          · exact n1 j a h h2
          · exact x1.dis i a h2 (.inr ⟨j, h⟩)
        | pl k =>
          rintro (h2 | ⟨i, h2, h3⟩)
          · exact x1.dis k a h (.inl h2)
          · have hk := x1.inj k i a h h2
            subst hk
            exact h3 j e1
    · rcases h with h | ⟨i, h, _⟩
      · exact x1.al a (.inl h)
      · exact x1.alive h
  refine ⟨Oc, Wc, xc, ?_⟩
  intro Wd f ms' sl2 H2 t2 x2 hl hs2 nf
  let W2 : Own := fun i => if h : ∃ j : Nat, os[j]? = some (.pl i) ∧ isOwn s1 i = true then Wd (Classical.choose h) else W1 i
  have lent : ∀ {i j : Nat}, os[j]? = some (.pl i) → isOwn s1 i = true → W2 i = Wd j := fun {i j} h1 h2 => by
    have ex : ∃ j : Nat, os[j]? = some (.pl i) ∧ isOwn s1 i = true := ⟨j, h1, h2⟩
    simp only [W2, dif_pos ex]
    rw [ownSl_uniq h2 nd (Classical.choose_spec ex).1 h1]
  have kept : ∀ {i : Nat}, (¬ ∃ j : Nat, os[j]? = some (.pl i) ∧ isOwn s1 i = true) → W2 i = W1 i := fun {i} h => by simp only [W2, dif_neg h]
  have W2or : ∀ i a, a ∈ W2 i → (∃ j : Nat, os[j]? = some (.pl i) ∧ isOwn s1 i = true ∧ a ∈ Wd j) ∨ ((¬ ∃ j : Nat, os[j]? = some (.pl i) ∧ isOwn s1 i = true) ∧ a ∈ W1 i) := fun i a h => by
    by_cases ex : ∃ j : Nat, os[j]? = some (.pl i) ∧ isOwn s1 i = true
    · obtain ⟨j, h1, h2⟩ := ex
      rw [lent h1 h2] at h
      exact .inl ⟨j, h1, h2, h⟩
    · rw [kept ex] at h
      exact .inr ⟨ex, h⟩
  have keptOc : ∀ i a, (¬ ∃ j : Nat, os[j]? = some (.pl i) ∧ isOwn s1 i = true) → a ∈ W1 i → Oc a := fun i a h h2 => .inr ⟨i, h2, fun j hj => h ⟨j, hj, x1.ownList h2⟩⟩
  have notWc : ∀ a, Oc a → ∀ j, a ∉ Wc j := fun a h j hj => xc.dis j a hj h
  -- what the callee made new is new for us
  have back : ∀ a, ((∃ j, a ∈ Wc j) ∨ H1 a = none) → (∃ j, a ∈ W j) ∨ H a = none := fun a h => by
    rcases h with ⟨j, h⟩ | h
    · rcases hWc j a h with ⟨k, h⟩ | ⟨i, h⟩
      · exact t1.newf a ⟨k, h⟩
      · exact t1.new i a h
    · exact t1.dead h
  have trk : ∀ a ob, H a = some ob → (∀ i, a ∉ W i) → H2 a = some ob := fun a ob h hn => by
    have h1 := t1.keep a ob h hn
    refine t2.keep a ob h1 fun j hj => ?_
    rcases back a (.inl ⟨j, hj⟩) with ⟨k, hk⟩ | z
    · exact hn k hk
    · rw [h] at z; cases z
  have trn : ∀ i a, a ∈ W2 i → (∃ j, a ∈ W j) ∨ H a = none := fun i a h => by
    rcases W2or i a h with ⟨j, _, _, h⟩ | ⟨_, h⟩
    · exact back a (t2.new j a h)
    · exact t1.new i a h
  have tr : Tr W H W2 (· ∈ f) H2 := ⟨trk, trn, fun a h => back a (t2.newf a h)⟩
  have hG2 : Same (gr (plus Oc f) Wd H2) (gr (plus O f) W2 H2) := hid_less fun a h => by
    rcases h with (h | h) | ⟨i, h⟩
    · exact .inl (.inl (.inl h))
    · exact .inl (.inr h)
    · rcases W2or i a h with ⟨j, _, _, h⟩ | ⟨h1, h⟩
      · exact .inr ⟨j, h⟩
      · exact .inl (.inl (keptOc i a h1 h))
  have hG1 : Same (gr (plusF O F) W1 H1) (gr (plus O f) W2 H2) := (hG.trans (gr_tr t2 (O1 := plus Oc f) fun a h => h)).trans hG2
  refine ⟨W2, tr, ⟨fun i m e => ?_, fun i h => ?_, fun i k a h1 h2 => ?_, fun i a h => ?_, fun a h => ?_, by rw [giveb_len, x1.len]⟩, hG2, fun a h h2 => nf a h (.inl h2)⟩
  · by_cases ex : ∃ j : Nat, os[j]? = some (.pl i) ∧ isOwn s1 i = true
    · obtain ⟨j, h1, h2⟩ := ex
      have hjl : j < os.length := (List.getElem?_eq_some_iff.mp h1).1
      have hj : j < ms'.length := by omega
      have hil : i < s1.length := by
        have : ∃ y, s1[i]? = some y := by
          unfold isOwn at h2
          cases h3 : s1[i]? with
          | none => rw [h3] at h2; cases h2
          | some y => exact ⟨y, rfl⟩
        obtain ⟨y, hy⟩ := this
        exact (List.getElem?_eq_some_iff.mp hy).1
      have e3 := giveb_in h2 os ms' s1 j ms'[j] nd h1 (List.getElem?_eq_getElem hj) hil
      rw [e] at e3
      cases e3
      obtain ⟨v', ev, r'⟩ := x2.at_ j ms'[j] (by rw [hs2 j i h1, List.getElem?_eq_getElem hj])
      obtain ⟨v2, ev2, r2⟩ := r1.at_ j _ h1
      have hv : v' = v2 := by
        rw [List.getElem?_map, ev2] at ev
        simpa using ev.symm
      subst hv
      rw [lent h1 h2]
      refine ⟨v', ?_, r'.mono hG2 fun _ _ _ h => h⟩
      generalize F j = fj at r2
      cases r2 with
      | pl es => exact es
    · rw [giveb_out os ms' s1 fun j hj => by
        cases h : isOwn s1 i with
        | false => rfl
        | true => exact absurd ⟨j, hj, h⟩ ex] at e
      obtain ⟨v', ev, r'⟩ := x1.at_ i m e
      rw [kept ex]
      exact ⟨v', ev, r'.mono hG1 fun a ha ob hob => t2.keep a ob hob (notWc a (keptOc i a ex ha))⟩
  · by_cases ex : ∃ j : Nat, os[j]? = some (.pl i) ∧ isOwn s1 i = true
    · obtain ⟨j, h1, h2⟩ := ex
      have hjl : j < os.length := (List.getElem?_eq_some_iff.mp h1).1
      have hj : j < ms'.length := by omega
      have hil : i < s1.length := by
        have : ∃ y, s1[i]? = some y := by
          unfold isOwn at h2
          cases h3 : s1[i]? with
          | none => rw [h3] at h2; cases h2
          | some y => exact ⟨y, rfl⟩
        obtain ⟨y, hy⟩ := this
        exact (List.getElem?_eq_some_iff.mp hy).1
      exact absurd (giveb_in h2 os ms' s1 j ms'[j] nd h1 (List.getElem?_eq_getElem hj) hil) (h _)
    · rw [kept ex]
      refine x1.no i fun m hm => h m ?_
      rw [giveb_out os ms' s1 fun j hj => by
        cases h : isOwn s1 i with
        | false => rfl
        | true => exact absurd ⟨j, hj, h⟩ ex]
      exact hm
  · rcases W2or i a h1 with ⟨j, e1, e2, h1⟩ | ⟨e1, h1⟩
    · rcases W2or k a h2 with ⟨j', e3, e4, h2⟩ | ⟨e3, h2⟩
      · have := x2.inj j j' a h1 h2
        subst this
        rw [e1] at e3; cases e3; rfl
      · exact absurd (Or.inl (keptOc k a e3 h2)) (x2.dis j a h1)
    · rcases W2or k a h2 with ⟨j', e3, e4, h2⟩ | ⟨e3, h2⟩
      · exact absurd (Or.inl (keptOc i a e1 h1)) (x2.dis j' a h2)
      · exact x1.inj i k a h1 h2
  · rcases W2or i a h with ⟨j, e1, e2, h⟩ | ⟨e1, h⟩
    · rintro (h2 | h2)
      · exact x2.dis j a h (.inl (.inl h2))
      · exact x2.dis j a h (.inr h2)
    · rintro (h2 | h2)
      · exact x1.dis i a h (.inl h2)
      · exact nf a h2 (keptOc i a e1 h)
  · rcases h with h | h
    · obtain ⟨ob, e⟩ := x1.al a (.inl h)
      exact ⟨ob, t2.keep a ob e (notWc a (.inl h))⟩
    · exact x2.al a (.inr h)
/-- what stands behind a call's arguments -/
theorem res_at {ms' : List MV} {n : Nat} {os : List Op} (hl : ms'.length = n) (hn : os.length = n) (j i : Nat) (h : os[j]? = some (.pl i)) : (ms'.map some)[j]? = some ms'[j]? := by
  have hj : j < ms'.length := by
    have := (List.getElem?_eq_some_iff.mp h).1
    omega
  rw [List.getElem?_map, List.getElem?_eq_getElem hj]
  rfl
theorem call_imp {K : PySem.W.Frag} {n : Nat} {g : FM} {ms : AM} {σ : L2.St} {H : Hp} {Q : VK} {EE : XK} (q : tE K (E.call n g ms) σ H Q) : tCall (spF K n g) [] EE (tAs K ms) σ H Q := by
  obtain ⟨O, W, sl, o, sl', x, e, q⟩ := tE_of q
  obtain ⟨os, s1, e1, e2⟩ := bind_ok e
  cases ec : conts s1 os with
  | none => simp only [ec] at e2; cases e2
  | some cs =>
    simp only [ec] at e2
    by_cases hc : os.length = n ∧ (ownSl s1 os).Nodup
    · rw [if_pos hc] at e2
      obtain ⟨hn, nd⟩ := hc
      refine tAs_mk x e1 fun W1 F vs H1 t1 x1 r1 n1 => ?_
      rw [List.append_nil]
      obtain ⟨Oc, Wc, xc, ret⟩ := call_core hn nd ec t1 x1 r1 n1
      refine ⟨by rw [← hn, r1.len], Oc, Wc, cs, xc, ?_⟩
      cases eg : g cs with
      | exc _ _ => simp only [eg] at e2; cases e2
      | stuck => simp only [eg] at e2; cases e2
      | ok r ms' =>
        simp only [eg] at e2
        by_cases hl : ms'.length = n
        · rw [if_pos hl] at e2
          cases e2
          intro Wd f v H2 t2 x2 rm nf
          obtain ⟨W2, y1, y2, y3, y4⟩ := ret Wd f ms' _ H2 t2 x2 hl (res_at hl hn) nf
          exact q W2 f v H2 y1 y2 (.tmp (rm.mono y3 fun _ _ _ h => h)) y4
        · rw [if_neg hl] at e2; cases e2
    · rw [if_neg hc] at e2; cases e2
/-! ### calls that may raise -/
def tEX (K : PySem.W.Frag) (Wx : WX) (m : EM) : TE := fun σ H Q => ∃ O W sl, Sim K O W sl σ H ∧ match m sl with
  | .ok o sl' => ∀ (W' : Own) (f : List Addr) (v : V) (H' : Hp), Tr W H W' (· ∈ f) H' → Sim K (plus O f) W' sl' σ H' → ROp K (gr (plus O f) W' H') H' σ o v f → (∀ a ∈ f, ¬ O a) → Q v H'
  | .exc x sl' => ∀ (W' : Own) (H' : Hp) (cls : Value) (d : Option Addr), Tr W H W' nof H' → Sim K O W' sl' σ H' → RX K (gr O W' H') x cls d → Wx cls d σ H'
  | .stuck => False
abbrev SEX (X : Cx) (e : Expr) (m : EM) : Prop := ∀ Wx, Takes X Wx → PE X e (tEX X.K Wx m)
def E.callX (n : Nat) (g : FM) (as : AM) : EM := fun sl => match as sl with
  | .ok os sl => (match conts sl os with
    | some ms => if os.length = n ∧ (ownSl sl os).Nodup then (match g ms with
      | .ok r ms' => if ms'.length = n then .ok (.tmp r) (giveb sl os ms' sl) else .stuck
      | .exc x ms' => if ms'.length = n then .exc x (giveb sl os ms' sl) else .stuck
      | .stuck => .stuck) else .stuck
    | none => .stuck)
  | _ => .stuck
theorem callX_imp {K : PySem.W.Frag} {Wx : WX} {n : Nat} {g : FM} {ms : AM} {σ : L2.St} {H : Hp} {Q : VK} (q : tEX K Wx (E.callX n g ms) σ H Q) : tAs K ms σ H fun vs H1 => spX K n g vs H1 Q (WE Wx σ) := by
  obtain ⟨O, W, sl, x, q⟩ := q
  unfold E.callX at q
  cases e1 : ms sl with
  | exc _ _ => rw [e1] at q; exact q.elim
  | stuck => rw [e1] at q; exact q.elim
  | ok os s1 =>
    rw [e1] at q
    simp only at q
    cases ec : conts s1 os with
    | none => rw [ec] at q; exact q.elim
    | some cs =>
      rw [ec] at q
      simp only at q
      by_cases hc : os.length = n ∧ (ownSl s1 os).Nodup
      · rw [if_pos hc] at q
        obtain ⟨hn, nd⟩ := hc
        refine tAs_mk x e1 fun W1 F vs H1 t1 x1 r1 n1 => ?_
        obtain ⟨Oc, Wc, xc, ret⟩ := call_core hn nd ec t1 x1 r1 n1
        refine ⟨by rw [← hn, r1.len], Oc, Wc, cs, xc, ?_⟩
        cases eg : g cs with
        | stuck => rw [eg] at q; exact q.elim
        | exc y ms' =>
          rw [eg] at q
          simp only at q ⊢
          by_cases hl : ms'.length = n
          · rw [if_pos hl] at q
            intro Wd H2 cls d t2 x2 rx
            obtain ⟨W2, y1, y2, y3, y4⟩ := ret Wd [] ms' _ H2 (t2.less fun a h => by simp at h) (x2.less fun a h => h.elim id fun h => by simp at h) hl (res_at hl hn) (fun a h => by simp at h)
            refine q W2 H2 cls d (y1.less fun a h => h.elim) (y2.less fun a h => .inl h) ?_
            exact (rx.up (hid_less fun a h => h.elim (fun h => h.elim .inl fun h => by simp at h) .inr)).up (y3.trans (hid_less fun a h => h.elim (fun h => .inl (.inl h)) .inr))
          · rw [if_neg hl] at q; exact q.elim
        | ok r ms' =>
          rw [eg] at q
          simp only at q ⊢
          by_cases hl : ms'.length = n
          · rw [if_pos hl] at q
            intro Wd f v H2 t2 x2 rm nf
            obtain ⟨W2, y1, y2, y3, y4⟩ := ret Wd f ms' _ H2 t2 x2 hl (res_at hl hn) nf
            exact q W2 f v H2 y1 y2 (.tmp (rm.mono y3 fun _ _ _ h => h)) y4
          · rw [if_neg hl] at q; exact q.elim
      · rw [if_neg hc] at q; exact q.elim
section
variable {X : Cx} {pos p : Pos} {x : Str} {e : Expr} {es : List Expr} {ms : AM} {n k : Nat} {g : FM} {f : Addr} {fd : FuncData} {ps : List Str} {CX : CXT} {EE : XK}
theorem se_call (F : FnOk X.prog X.w X.K X.mg X.base CX k f fd ps (spF X.K n g)) (hr : Room k X.A) (hm : X.mg x = some (.ref f)) (hk : PySem.W.keepIn X.K (.ref f) = true) (hb : Binds X.K fd ps []) (hx : Passes CX X EE) (ha : SA X (e :: es) ms)
    (hg : Gl X x := by rfl) (hdb : (x == ("__debug__" : Str)) = false := by decide) (he : starEach (e :: es) X.env = (false, eval e X.env) :: starEach es X.env := by rfl) (hpl : (backTo pos (starEach es X.env)).any (·.1) = false := by rfl) :
    SE X (.Call (.Name x p) (e :: es) [] pos) (E.call n g ms) := (pe_call F hr hg hm hk hb .nil hx ha (hdb := hdb) (he := he) (hpl := hpl)).imp fun σ H Q q => call_imp q
theorem se_call0 (F : FnOk X.prog X.w X.K X.mg X.base CX k f fd ps (spF X.K n g)) (hr : Room k X.A) (hm : X.mg x = some (.ref f)) (hk : PySem.W.keepIn X.K (.ref f) = true) (hb : Binds X.K fd ps []) (hx : Passes CX X EE)
    (hg : Gl X x := by rfl) (hdb : (x == ("__debug__" : Str)) = false := by decide) : SE X (.Call (.Name x p) [] [] pos) (E.call n g A.nil) := (pe_call0 F hr hg hm hk hb .nil hx (hdb := hdb)).imp fun σ H Q q => by
  have h := call_imp (EE := EE) q
  obtain ⟨O, W, sl, x, h⟩ := h
  exact h W noF [] H ⟨fun _ _ h _ => h, fun i a h => .inl ⟨i, h⟩, fun a ⟨j, h⟩ => by simp [noF] at h⟩
    (x.less fun a h => h.elim id fun ⟨j, h⟩ => by simp [noF] at h) ⟨rfl, fun j o h => by simp at h, fun _ _ => rfl, fun i j a h => by simp [noF] at h⟩ fun j a h => by simp [noF] at h
end

/-! ### methods that change a list -/
def isLst (sl : Sl) (i : Nat) : Bool := match sl[i]? with
  | some (some (.lst _)) => true
  | _ => false
def E.mth (f : List DV → List DV → Option (DV × List DV)) (i : Nat) (as : AM) : EM := fun sl => if isLst sl i then (as sl).bind fun os sl => match settle os sl with
  | some (ds, sl) => (match sl[i]? with
    | some (some (.lst xs)) => (match f xs ds with
      | some (r, xs') => .ok (.tmp (.val r)) (sl.set i (some (.lst xs')))
      | none => .stuck)
    | _ => .stuck)
  | none => .stuck else .stuck
def BM (K : PySem.W.Frag) (r : V → List V → Hp → VK → Prop) (f : List DV → List DV → Option (DV × List DV)) : Prop := ∀ (P : Addr → Prop) (H : Hp) (a : Addr) (vs ws : List V) (xs ds : List DV) (d : DV) (xs' : List DV) (Q : VK), f xs ds = some (d, xs') → H a = some (.lst vs) →
  RDs K (hid H P) xs vs → RDs K (hid H P) ds ws → (∀ w vs', RDs K (hid H P) xs' vs' → RD K (hid H P) d w → Q w (upd H a (.lst vs'))) → r (.ref a) ws H Q
theorem own_ref {K : PySem.W.Frag} {O : Addr → Prop} {W : Own} {sl : Sl} {σ : L2.St} {H : Hp} {i : Nat} (x : Sim K O W sl σ H) (h : isLst sl i = true) : ∃ a xs vs, sl[i]? = some (some (.lst xs)) ∧ σ[i]? = some (some (.ref a)) ∧ H a = some (.lst vs) ∧ RDs K (gr O W H) xs vs ∧ W i = [a] := by
  unfold isLst at h
  cases e : sl[i]? with
  | none => rw [e] at h; cases h
  | some y =>
    cases y with
    | none => rw [e] at h; cases h
    | some m =>
      cases m with
      | val _ => rw [e] at h; cases h
      | obj _ _ _ => rw [e] at h; cases h
      | dct _ _ => rw [e] at h; cases h
      | bo _ _ _ _ _ _ => rw [e] at h; cases h
      | lst xs =>
        obtain ⟨v, ev, r⟩ := x.at_ i _ e
        generalize W i = w at r
        cases r with
        | lst h1 h2 => exact ⟨_, xs, _, rfl, ev, h1, h2, rfl⟩
theorem mth_imp {K : PySem.W.Frag} {f : List DV → List DV → Option (DV × List DV)} {i : Nat} {ms : AM} {r : V → List V → Hp → VK → Prop} {σ : L2.St} {H : Hp} {Q : VK} (h : BM K r f) (q : tE K (E.mth f i ms) σ H Q) : tBM K "list" r (tVar i) (tAs K ms) σ H Q := by
  obtain ⟨O, W, sl, o, sl', x, e, q⟩ := tE_of q
  unfold E.mth at e
  by_cases hi : isLst sl i = true
  · rw [if_pos hi] at e
    obtain ⟨a, xs, vs, e1, ev, hH, rx, hW⟩ := own_ref x hi
    refine ⟨.ref a, ev, .inl ⟨rfl, vs, SqL.of hH⟩, ?_⟩
    obtain ⟨os, s1, e2, e3⟩ := bind_ok e
    refine tAs_mk x e2 fun W1 F ws H1 t1 x1 r1 n1 => ?_
    cases es : settle os s1 with
    | none => simp only [es] at e3; cases e3
    | some p =>
      obtain ⟨ds, s2⟩ := p
      simp only [es] at e3
      obtain ⟨W2, x2, rd, sh⟩ := settle_ok os s1 s2 ds W1 F ws es x1 r1 n1
      cases e4 : s2[i]? with
      | none => simp only [e4] at e3; cases e3
      | some y =>
        cases y with
        | none => simp only [e4] at e3; cases e3
        | some m =>
          cases m with
          | val _ => simp only [e4] at e3; cases e3
          | obj _ _ _ => simp only [e4] at e3; cases e3
          | dct _ _ => simp only [e4] at e3; cases e3
          | bo _ _ _ _ _ _ => simp only [e4] at e3; cases e3
          | lst ys =>
            simp only [e4] at e3
            cases ef : f ys ds with
            | none => simp only [ef] at e3; cases e3
            | some pr =>
              obtain ⟨d, ys'⟩ := pr
              simp only [ef] at e3
              cases e3
              have r4 := x2.getv e4 ev
              obtain ⟨vs2, hH2, rx2, hW2⟩ : ∃ vs2, H1 a = some (.lst vs2) ∧ RDs K (gr O W2 H1) ys vs2 ∧ W2 i = [a] := by
                generalize W2 i = w at r4
                cases r4 with
                | lst p q => exact ⟨_, p, q, rfl⟩
              refine h (own O W2) H1 a vs2 ws ys ds d ys' Q ef hH2 rx2 rd fun w vs' ra rb => ?_
              obtain ⟨x3, t3⟩ := x2.mut e4 ev ra
              have t2 : Tr W H W2 nof H1 := tr_shr t1.noF sh
              have hs : Same (hid H1 (own O W2)) (gr O W2 (upd H1 a (.lst vs'))) := fun b ob hb => by
                obtain ⟨h1, h2⟩ := hid_some.mp hb
                refine hid_some.mpr ⟨h1, ?_⟩
                rw [upd_ne (show b ≠ a from fun z => h1 (.inr ⟨i, by rw [hW2, z]; simp⟩))]
                exact h2
              have hl : ∀ b, plus O [] b → O b := fun b h => h.elim id fun h => by simp at h
              exact q W2 [] w _ ((t2.trans t3).less fun a h => by simp at h) (x3.less hl) (.tmp (.val ((rb.up hs).up (hid_less fun b h => h.elim (fun h => .inl (hl b h)) .inr)))) fun a h => by simp at h
  · rw [if_neg hi] at e; cases e
theorem mth0_imp {K : PySem.W.Frag} {f : List DV → List DV → Option (DV × List DV)} {i : Nat} {r : V → List V → Hp → VK → Prop} {σ : L2.St} {H : Hp} {Q : VK} (h : BM K r f) (q : tE K (E.mth f i A.nil) σ H Q) : tBM0 K "list" r (tVar i) σ H Q := by
  obtain ⟨v, ev, ty, h2⟩ := mth_imp h q
  refine ⟨v, ev, ty, ?_⟩
  obtain ⟨O, W, sl, x, h2⟩ := h2
  exact h2 W noF [] H ⟨fun _ _ h _ => h, fun i a h => .inl ⟨i, h⟩, fun a ⟨j, h⟩ => by simp [noF] at h⟩
    (x.less fun a h => h.elim id fun ⟨j, h⟩ => by simp [noF] at h) ⟨rfl, fun j o h => by simp at h, fun _ _ => rfl, fun i j a h => by simp [noF] at h⟩ fun j a h => by simp [noF] at h
end Sy
namespace Sy
open PySem PySem.Spec PyProof.Rows L2

/-! ### list comprehensions -/
def wipeS (sl : Sl) : List Nat → Sl
  | [] => sl
  | i :: ws => (wipeS sl ws).set i none
def restS (s1 b : Sl) : List Nat → Sl
  | [] => b
  | i :: ws => (restS s1 b ws).set i s1[i]?.join
def lcl (p : Pat) (c : TM) (m : EM) (ws : List Nat) : List DV → List DV → Sl → Res (List DV)
  | [], acc, b => .ok acc b
  | d :: ds, acc, b => match bindP p d b with
    | none => .stuck
    | some b => (c b).bind fun k b => if k then (m b).bind fun o b => (match settle1 o b with
        | some (e, b) => lcl p c m ws ds (acc ++ [e]) (wipeS b ws)
        | none => .stuck) else lcl p c m ws ds acc (wipeS b ws)
def E.lc (it : IM) (p : Pat) (c : TM) (m : EM) (ws : List Nat) : EM := fun sl => (it sl).bind fun ds s1 => if (ws.all fun i => !isOwn s1 i) = true ∧ ds.length ≤ 10000000 then
  (lcl p c m ws ds [] (wipeS s1 ws)).bind fun acc b => .ok (.tmp (.lst acc)) (restS s1 b ws) else .stuck
def T.yes : TM := fun sl => .ok true sl
abbrev STs (X : Cx) (es : List Expr) (m : TM) : Prop := PTs X es (tT X.K m)
theorem _root_.L2.PTs.imp {X : Cx} {es : List Expr} {t t' : TT} (h : PTs X es t) (i : ∀ σ H Q, t' σ H Q → t σ H Q) : PTs X es t' := ⟨fun pins s σ H Q I q => h.run pins s σ H Q I (i σ H Q q)⟩
theorem sts_nil {X : Cx} : STs X [] T.yes := pts_nil.imp fun σ H Q q => by
  obtain ⟨O, W, sl, b, sl', x, e, q⟩ := tT_of q
  cases e
  exact q W H Tr.refl x
theorem sts_one {X : Cx} {c : Expr} {t : TM} (h : ST X c t) : STs X [c] t := pts_one h

theorem wipeS_len (sl : Sl) : ∀ ws : List Nat, (wipeS sl ws).length = sl.length
  | [] => rfl
  | i :: ws => by unfold wipeS; rw [List.length_set]; exact wipeS_len sl ws
theorem wipeS_out (sl : Sl) (i : Nat) : ∀ ws : List Nat, i ∉ ws → (wipeS sl ws)[i]? = sl[i]?
  | [], _ => rfl
  | j :: ws, h => by
    have hj : j ≠ i := fun e => h (by simp [e])
    unfold wipeS
    rw [List.getElem?_set_ne hj]
    exact wipeS_out sl i ws fun z => h (List.mem_cons_of_mem _ z)
theorem wipeS_in (sl : Sl) (i : Nat) : ∀ ws : List Nat, i ∈ ws → i < sl.length → (wipeS sl ws)[i]? = some none
  | j :: ws, h, hl => by
    unfold wipeS
    by_cases hj : j = i
    · subst hj
      exact List.getElem?_set_self (by rw [wipeS_len]; exact hl)
    · rw [List.getElem?_set_ne hj]
      rcases List.mem_cons.mp h with e | e
      · exact absurd e.symm hj
      · exact wipeS_in sl i ws e hl
theorem restS_len (s1 b : Sl) : ∀ ws : List Nat, (restS s1 b ws).length = b.length
  | [] => rfl
  | i :: ws => by unfold restS; rw [List.length_set]; exact restS_len s1 b ws
theorem restS_out (s1 b : Sl) (i : Nat) : ∀ ws : List Nat, i ∉ ws → (restS s1 b ws)[i]? = b[i]?
  | [], _ => rfl
  | j :: ws, h => by
    have hj : j ≠ i := fun e => h (by simp [e])
    unfold restS
    rw [List.getElem?_set_ne hj]
    exact restS_out s1 b i ws fun z => h (List.mem_cons_of_mem _ z)
theorem restS_in (s1 b : Sl) (i : Nat) : ∀ ws : List Nat, i ∈ ws → i < b.length → (restS s1 b ws)[i]? = some s1[i]?.join
  | j :: ws, h, hl => by
    unfold restS
    by_cases hj : j = i
    · subst hj
      exact List.getElem?_set_self (by rw [restS_len]; exact hl)
    · rw [List.getElem?_set_ne hj]
      rcases List.mem_cons.mp h with e | e
      · exact absurd e.symm hj
      · exact restS_in s1 b i ws e hl
theorem wipe_in {σ : L2.St} {i : Nat} : ∀ {ws : List Nat}, i ∈ ws → i < σ.length → (wipe σ ws)[i]? = some none
  | j :: ws, h, hl => by
    unfold wipe
    by_cases hj : j = i
    · subst hj
      exact List.getElem?_set_self (by rw [wipe_length]; exact hl)
    · rw [List.getElem?_set_ne hj]
      rcases List.mem_cons.mp h with e | e
      · exact absurd e.symm hj
      · exact wipe_in e hl
theorem wipe_agr {σ σ2 : L2.St} {ws : List Nat} (a : Agr ws (wipe σ ws) σ2) (hl : σ2.length = σ.length) : wipe σ2 ws = wipe σ ws := by
  refine List.ext_getElem? fun i => ?_
  by_cases hi : i ∈ ws
  · by_cases h : i < σ.length
    · rw [wipe_in hi (by omega), wipe_in hi h]
    · rw [List.getElem?_eq_none (by rw [wipe_length]; omega), List.getElem?_eq_none (by rw [wipe_length]; omega)]
  · rw [wipe_out hi]
    exact a i hi
mutual
theorem bindP_len : ∀ (p : Pat) (d : DV) (b b' : Sl), bindP p d b = some b' → b'.length = b.length
  | .nm i, d, b, b', h => by
    unfold bindP at h
    split at h
    · cases h; simp
    · cases h
  | .tp ps, d, b, b', h => by
    unfold bindP at h
    split at h
    · exact bindPs_len ps _ b b' h
    · cases h
theorem bindPs_len : ∀ (ps : List Pat) (ds : List DV) (b b' : Sl), bindPs ps ds b = some b' → b'.length = b.length
  | [], [], b, b', h => by unfold bindPs at h; cases h; rfl
  | [], _ :: _, b, b', h => by unfold bindPs at h; cases h
  | _ :: _, [], b, b', h => by unfold bindPs at h; cases h
  | p :: ps, d :: ds, b, b', h => by
    unfold bindPs at h
    cases e : bindP p d b with
    | none => rw [e] at h; cases h
    | some b1 =>
      rw [e] at h
      exact (bindPs_len ps ds b1 b' h).trans (bindP_len p d b b1 e)
end
open Classical in
theorem Sim.wipe {K : PySem.W.Frag} {O : Addr → Prop} {W : Own} {sl : Sl} {σ : L2.St} {H : Hp} (x : Sim K O W sl σ H) (ws : List Nat) : ∃ W', Sim K O W' (wipeS sl ws) (L2.wipe σ ws) H ∧ ∀ i a, a ∈ W' i → a ∈ W i := by
  have sub : ∀ i a, a ∈ (fun i => if i ∈ ws then [] else W i) i → a ∈ W i := fun i a h => by
    by_cases hi : i ∈ ws
    · simp [hi] at h
    · simpa [hi] using h
  refine ⟨fun i => if i ∈ ws then [] else W i, ⟨fun i m e => ?_, fun i h => ?_, fun i j a h1 h2 => x.inj i j a (sub i a h1) (sub j a h2), fun i a h => x.dis i a (sub i a h), x.al, by rw [wipeS_len, wipe_length, x.len]⟩, sub⟩
  · have hi : i ∉ ws := fun z => by
      by_cases hl : i < sl.length
      · rw [wipeS_in sl i ws z hl] at e; cases e
      · rw [List.getElem?_eq_none (by rw [wipeS_len]; omega)] at e; cases e
    rw [wipeS_out sl i ws hi] at e
    obtain ⟨v, ev, r⟩ := x.at_ i m e
    refine ⟨v, by rw [wipe_out hi]; exact ev, ?_⟩
    simp only [if_neg hi]
    exact r.mono (gs_same sub) fun _ _ _ h => h
  · by_cases hi : i ∈ ws
    · simp [hi]
    · simp only [if_neg hi]
      exact x.no i fun m hm => h m (by rw [wipeS_out sl i ws hi]; exact hm)
/-- an object of others is written -/
theorem Sim.updO {K : PySem.W.Frag} {O : Addr → Prop} {W : Own} {sl : Sl} {σ : L2.St} {H : Hp} {a : Addr} {o : HO} (x : Sim K O W sl σ H) (h : O a) : Sim K O W sl σ (upd H a o) ∧ Same (gr O W H) (gr O W (upd H a o)) := by
  have hs : Same (gr O W H) (gr O W (upd H a o)) := fun b ob hb => by
    obtain ⟨h1, h2⟩ := hid_some.mp hb
    refine hid_some.mpr ⟨h1, ?_⟩
    rw [upd_ne (show b ≠ a from fun z => h1 (.inl (by rw [z]; exact h)))]
    exact h2
  refine ⟨⟨fun i m e => ?_, x.no, x.inj, x.dis, fun b hb => ?_, x.len⟩, hs⟩
  · obtain ⟨v, ev, r⟩ := x.at_ i m e
    refine ⟨v, ev, r.mono hs fun b hb ob h2 => ?_⟩
    rw [upd_ne (show b ≠ a from fun z => x.dis i b hb (by rw [z]; exact h))]
    exact h2
  · by_cases z : b = a
    · subst z; exact ⟨o, upd_same⟩
    · obtain ⟨ob, e⟩ := x.al b hb
      exact ⟨ob, by rw [upd_ne z]; exact e⟩
theorem bind_ok' {α β : Type} {r : Res α} {f : α → Sl → Res β} {b : β} {sl : Sl} (h : r.bind f = .ok b sl) : ∃ a s, r = .ok a s ∧ f a s = .ok b sl := bind_ok h
theorem lc_imp {K : PySem.W.Frag} {it : IM} {p : Pat} {c : TM} {m : EM} {ws : List Nat} {σ : L2.St} {H : Hp} {Q : VK} (q : tE K (E.lc it p c m ws) σ H Q) : tLc (tI K it) (tG K p ws) (tT K c) (tE K m) ws σ H Q := by
  obtain ⟨O, W, sl, o, sl', x, e, q⟩ := tE_of q
  obtain ⟨ds, s1, e1, e2⟩ := bind_ok e
  by_cases hc : (ws.all fun i => !isOwn s1 i) = true ∧ ds.length ≤ 10000000
  · rw [if_pos hc] at e2
    obtain ⟨hno, hlen⟩ := hc
    obtain ⟨acc, bf, e3, e4⟩ := bind_ok e2
    cases e4
    refine ⟨O, W, sl, x, ?_⟩
    rw [e1]
    intro W1 H1 J t1 x1 itok Dl hD
    have nD : ¬ O Dl := fun h => by
      obtain ⟨ob, e⟩ := x1.al Dl h
      rw [hD] at e; cases e
    have s0 : Same H1 (upd H1 Dl (.lst [])) := fun b ob e => by rw [upd_ne (ne_of_none e hD)]; exact e
    have x1' : Sim K (plus O [Dl]) W1 s1 σ (upd H1 Dl (.lst [])) := x1.grow s0 (fun a h => h.imp id fun h => by simp at h; rw [h]; exact hD) fun a h => by
      rcases h with h | h
      · obtain ⟨ob, e⟩ := x1.al a h
        exact ⟨ob, s0 a ob e⟩
      · simp at h; subst h; exact ⟨_, upd_same⟩
    obtain ⟨W0, x0, sh0⟩ := x1'.wipe ws
    have t0 : Tr W1 H1 W0 (· ∈ [Dl]) (upd H1 Dl (.lst [])) := tr_shr (Tr.ofSame s0 fun a h => by simp at h; rw [h]; exact hD) sh0
    refine ⟨fun i k H' => k = ds.length - i ∧ i ≤ ds.length ∧ ∃ W' b accd accv, Sim K (plus O [Dl]) W' b (L2.wipe σ ws) H' ∧ Tr W1 H1 W' (· ∈ [Dl]) H' ∧ H' Dl = some (.lst accv) ∧ RDs K (gr (plus O [Dl]) W' H') accd accv ∧ accd.length ≤ i ∧
      lcl p c m ws (ds.drop i) accd b = .ok acc bf, ⟨_, rfl, Nat.zero_le _, W0, _, [], [], x0, t0, upd_same, .nil, Nat.le_refl _, e3⟩, ?_⟩
    rintro i k H' ⟨rfl, hi, W', b, accd, accv, x', t', hH, ra, hla, el⟩
    have hG0 : Same (gr O W1 H1) (gr (plus O [Dl]) W' H') := gr_tr t' fun a h => h
    obtain ⟨go, stop⟩ := itok i H' (own (plus O [Dl]) W') (fun a => x'.ownAlive) hG0
    by_cases hlt : i < ds.length
    · obtain ⟨g1, g2⟩ := go hlt
      refine .inr ⟨g1, fun H2 => ∃ W' b accd accv, Sim K (plus O [Dl]) W' b (L2.wipe σ ws) H2 ∧ Tr W1 H1 W' (· ∈ [Dl]) H2 ∧ H2 Dl = some (.lst accv) ∧ RDs K (gr (plus O [Dl]) W' H2) accd accv ∧ accd.length ≤ i + 1 ∧
        lcl p c m ws (ds.drop (i + 1)) accd b = .ok acc bf, fun H2 h => ⟨ds.length - (i + 1), by omega, rfl, hlt, h⟩, fun y H2 hy => ?_⟩
      obtain ⟨sm, d, ed, rd⟩ := g2 y H2 hy
      have hd : ds.drop i = d :: ds.drop (i + 1) := by
        rw [List.drop_eq_getElem_cons hlt]
        have : ds[i] = d := by
          rw [List.getElem?_eq_getElem hlt] at ed
          exact Option.some.inj ed
        rw [this]
      rw [hd] at el
      unfold lcl at el
      have x2 : Sim K (plus O [Dl]) W' b (L2.wipe σ ws) H2 := x'.grow sm (fun a h => .inl h) fun a h => by
        obtain ⟨ob, e⟩ := x'.al a h
        exact ⟨ob, sm a ob e⟩
      have t2 : Tr W' H' W' nof H2 := Tr.ofSame sm fun _ h => h.elim
      cases eb : bindP p d b with
      | none => rw [eb] at el; cases el
      | some b3 =>
        rw [eb] at el
        obtain ⟨kk, b4, ec, el⟩ := bind_ok el
        refine ⟨plus O [Dl], W', b, d, b3, x2, rd, eb, fun W3 σ3 x3 sh3 a3 => ⟨wipe_agr a3 (by rw [← x3.len, ← wipe_length σ ws, ← x2.len]; exact (bindP_len p d b b3 eb)), ?_⟩⟩
        have hw : L2.wipe σ3 ws = L2.wipe σ ws := wipe_agr a3 (by rw [← x3.len, ← wipe_length σ ws, ← x2.len]; exact (bindP_len p d b b3 eb))
        refine tT_mk x3 ec fun W4 H4 t4 x4 => ?_
        have t14 : Tr W' H' W4 nof H4 := (tr_shr t2 sh3).trans t4
        cases kk with
        | false =>
          rw [if_neg Bool.false_ne_true] at el ⊢
          obtain ⟨W5, x5, sh5⟩ := x4.wipe ws
          rw [hw] at x5
          have t15 := tr_shr t14 sh5
          refine ⟨W5, _, accd, accv, x5, ⟨(t'.trans t15).keep, (t'.trans t15).new, t'.newf⟩, t15.keep _ _ hH fun j hj => x'.dis j _ hj (.inr (by simp)), ra.up (gr_tr t15 fun a h => .inl h), by omega, el⟩
        | true =>
          rw [if_pos rfl] at el ⊢
          obtain ⟨o, b5, em, el⟩ := bind_ok el
          refine tE_mk x4 em fun W5 f5 v5 H5 t5 x5 r5 n5 => ?_
          cases es : settle1 o b5 with
          | none => rw [es] at el; cases el
          | some pr =>
            obtain ⟨ee, b6⟩ := pr
            rw [es] at el
            obtain ⟨W6, x6, rd6, sh6⟩ := settle1_ok x5 r5 n5 es
            have t15 : Tr W' H' W5 nof H5 := t14.trans t5.noL
            have t16 : Tr W' H' W6 nof H5 := tr_shr t15 sh6
            have hH5 : H5 Dl = some (.lst accv) := t16.keep _ _ hH fun j hj => x'.dis j _ hj (.inr (by simp))
            have ra5 := ra.up (gr_tr t16 (O1 := plus O [Dl]) fun a h => .inl h)
            refine ⟨accv, hH5, ?_, ?_⟩
            · rw [← RDs.length ra]
              rw [sizeLine_eq]
              omega
            · obtain ⟨x7, s7⟩ := x6.updO (a := Dl) (o := .lst (accv ++ [v5])) (.inr (by simp))
              obtain ⟨W8, x8, sh8⟩ := x7.wipe ws
              rw [hw] at x8
              have t8 : Tr W1 H1 W8 (· ∈ [Dl]) (upd H5 Dl (.lst (accv ++ [v5]))) := by
                have t17 := t'.trans (tr_shr t16 sh8)
                refine ⟨fun a ob h hn => ?_, t17.new, t'.newf⟩
                have na : a ≠ Dl := ne_of_none h hD
                rw [upd_ne na]
                exact t17.keep a ob h hn
              refine ⟨W8, _, accd ++ [ee], accv ++ [v5], x8, t8, upd_same, ?_, by simp; omega, el⟩
              exact RDs.append ((ra5.up s7).up (gs_same sh8)) (.cons ((rd6.up s7).up (gs_same sh8)) .nil)
    · have e : i = ds.length := by omega
      subst e
      rw [List.drop_length] at el
      unfold lcl at el
      cases el
      refine .inl ⟨stop (Nat.le_refl _), ?_⟩
      have t1' : Tr W H W' (· ∈ [Dl]) H' := ⟨(t1.trans t').keep, (t1.trans t').new, (t1.trans t').newf⟩
      have ow : ∀ i, i ∈ ws → W' i = [] := fun i h => by
        refine Classical.byContradiction fun hne => ?_
        obtain ⟨a, ha⟩ := List.exists_mem_of_ne_nil _ hne
        have h1 := x'.ownList ha
        unfold isOwn at h1
        by_cases hl : i < (L2.wipe σ ws).length
        · by_cases ex : ∃ y, bf[i]? = some (some y)
          · obtain ⟨y, ey⟩ := ex
            obtain ⟨v, ev, _⟩ := x'.at_ i y ey
            rw [wipe_in h (by rw [← wipe_length σ ws]; exact hl)] at ev
            cases ev
          · split at h1 <;> first
            | (rename_i ey; exact ex ⟨_, ey⟩)
            | cases h1
        · rw [List.getElem?_eq_none (by rw [x'.len]; omega)] at h1
          cases h1
      have lb : bf.length = σ.length := by rw [x'.len, wipe_length]
      refine q W' [Dl] (.ref Dl) H' t1' ⟨fun i mm e => ?_, fun i h => ?_, x'.inj, x'.dis, x'.al, by rw [restS_len, lb]⟩ (.tmp (.lst hH ra)) fun a h => by simp at h; rw [h]; exact nD
      · by_cases hi : i ∈ ws
        · have hil : i < bf.length := by
            have := (List.getElem?_eq_some_iff.mp e).1
            rw [restS_len] at this; exact this
          rw [restS_in s1 bf i ws hi hil] at e
          have e' := join_some (Option.some.inj e)
          obtain ⟨v, ev, r⟩ := x1.at_ i mm e'
          refine ⟨v, ev, ?_⟩
          rw [ow i hi]
          have := (List.all_eq_true.mp hno) i hi
          cases mm with
          | val d => exact .val (r.rdv.up hG0)
          | lst _ => simp [isOwn, e'] at this
          | obj _ _ _ => simp [isOwn, e'] at this
          | dct _ _ => simp [isOwn, e'] at this
          | bo _ _ _ _ _ _ => simp [isOwn, e'] at this
        · rw [restS_out s1 bf i ws hi] at e
          obtain ⟨v, ev, r⟩ := x'.at_ i mm e
          exact ⟨v, by rw [← wipe_out hi]; exact ev, r⟩
      · by_cases hi : i ∈ ws
        · exact ow i hi
        · exact x'.no i fun mm hm => h mm (by rw [restS_out s1 bf i ws hi]; exact hm)
  · rw [if_neg hc] at e2; cases e2
end Sy
namespace Sy
open PySem PySem.Spec PyProof.Rows L2
section
variable {X : Cx} {elt tg iter : Expr} {ifs : List Expr} {scope : Scope} {own : List (Str × Nat)} {pos spos : Pos} {it : IM} {p : Pat} {c : TM} {m : EM} {as : List Nat}
theorem se_lc (hc : X.calm = true) (hN : X.N.Nodup) (hi : SI X tg iter it) (ok : BlkOk X.N X.env.scope scope own)
    (hg : ∀ (s : Shared) (H : Hp) (C : Addr) (cl : List (Str × Addr)) (fp : List Addr), SG (X.blk s H scope (compEnvC scope cl C X.env) fp) tg p (own.map (·.2))) (ht : ∀ (s : Shared) (H : Hp) (C : Addr) (cl : List (Str × Addr)) (fp : List Addr), STs (X.blk s H scope (compEnvC scope cl C X.env) fp) ifs c)
    (he : ∀ (s : Shared) (H : Hp) (C : Addr) (cl : List (Str × Addr)) (fp : List Addr), SE (X.blk s H scope (compEnvC scope cl C X.env) fp) elt m) (hs : ∀ x, foldedSetIterable iter X.env x = pure x := by intro _; rfl) :
    SE X (.ListComp elt [⟨tg, iter, ifs, 0⟩] scope pos) (E.lc it p c m (own.map (·.2))) := (pe_lc hc hN hi ok hg ht he hs).imp fun σ H Q q => lc_imp q
theorem asg_any {i : Nat} {e : EM} {te : TE} {D : Ends} {σ : L2.St} {H : Hp} {Wx : WX} (ha : i ∈ as) (hi : ∀ Q, tE X.K e σ H Q → te σ H Q) (q : tS X.K Wx (S.asg i e) as D σ H) : tAsg te (gName i) D σ H := hi _ (asg_imp ha q)
theorem ss_lc {i : Nat} {y : Str} {py : Pos} (hc : X.calm = true) (hN : X.N.Nodup) (hsw : swapsWith (.ListComp elt [⟨tg, iter, ifs, 0⟩] scope pos) (some (.Name y py)) spos.line X.env = pure true) (hi : SI X tg iter it) (ok : BlkOk X.N X.env.scope scope own)
    (hg : ∀ (s : Shared) (H : Hp) (C : Addr) (cl : List (Str × Addr)) (fp : List Addr), SG (X.blk s H scope (compEnvC scope cl C X.env) fp) tg p (own.map (·.2))) (ht : ∀ (s : Shared) (H : Hp) (C : Addr) (cl : List (Str × Addr)) (fp : List Addr), STs (X.blk s H scope (compEnvC scope cl C X.env) fp) ifs c)
    (he : ∀ (s : Shared) (H : Hp) (C : Addr) (cl : List (Str × Addr)) (fp : List Addr), SE (X.blk s H scope (compEnvC scope cl C X.env) fp) elt m) (hy : X.N[i]? = some y := by rfl) (hyl : X.env.scope.names.lookup y = some .local := by rfl) (ha : i ∈ as := by decide) (hs : ∀ x, foldedSetIterable iter X.env x = pure x := by intro _; rfl) :
    SS X (.Assign [.Name y py] (.ListComp elt [⟨tg, iter, ifs, 0⟩] scope pos) spos) (S.asg i (E.lc it p c m (own.map (·.2)))) as := fun Wx tk => (ps_setLc hc hN hy hyl hsw hi ok hg ht he hs).imp fun D σ H q => asg_any ha (fun Q q => lc_imp q) q
end
end Sy

namespace Sy
open PySem PySem.Spec PyProof.Rows L2 RT

/-! ### list(reversed(xs)) -/
section
variable {prog : Program} {w : World} {A : Around} {E : Value → Shared → Prop} {s : Shared}
theorem list_rev {it l : Addr} {items : Array Value} {Q : Value → Shared → Prop} (hh : A.handled = none) (hit : s.heap.IsRevIter it l ((items.size : Int) - 1)) (hl : s.heap.IsList l items) (hne : l ≠ it) (hn : items.size ≤ sizeLine)
    (hQ : ∀ h' tk acc' c', (∀ b o, b ≠ it → s.heap.get? b = some o → h'.get? b = some o) → h'.get? s.heap.objs.size = some { cls := .type "list", dict := none, data := .seq acc' c', slots := #[] } → ItemsOf (fun i v => items[items.size - 1 - i]? = some v) acc' items.size →
      Q (.ref s.heap.objs.size) { s with heap := h', toks := tk }) :
    wpAny (model prog w) A (call (.type "list") [.ref it]) Q E s := by
  refine callType_codes (Q₁ := fun obj s₁ => obj = .ref s.heap.objs.size ∧ s₁ = { s with heap := s.heap.push { cls := .type "list", data := .seq #[] } }) PySem.F.called_list (PySem.F.typeCall_list_1 _) PySem.F.entry_list_init
    (code_list_new _ ⟨rfl, rfl⟩) fun obj s₁ h₁ => ?_
  obtain ⟨rfl, rfl⟩ := h₁
  have hS : (s.heap.push { cls := .type "list", data := .seq #[] }).get? s.heap.objs.size = some { cls := .type "list", data := .seq #[] } := Heap.get?_push_size _ rfl
  obtain ⟨oi, hoi, _⟩ := id hit
  obtain ⟨ol, hol, _⟩ := id hl
  have hSi : s.heap.objs.size ≠ it := Nat.ne_of_gt (Heap.lt_size hoi)
  have hSl : s.heap.objs.size ≠ l := Nat.ne_of_gt (Heap.lt_size hol)
  have hSf : s.heap.objs.size ∉ [it, l] := by simp only [List.mem_cons, List.not_mem_nil, or_false, not_or]; exact ⟨hSi, hSl⟩
  refine ⟨⟨_, hS, rfl⟩, PySem.F.args_list_init_2 _ _, ?_⟩
  show wpAny _ _ (do let old ← Builtin.List.listItems (.ref s.heap.objs.size); Builtin.List.listUpdate (.ref s.heap.objs.size) (fun _ => #[]); letGo old.toList.reverse; Builtin.List.listExtendWith (.ref s.heap.objs.size) (.ref it) .none) _ _ _
  refine wpAny_bind ?_
  unfold Builtin.List.listItems
  refine wpAny_bind (wpAny_seqItems hS rfl (wpAny_pure ?_))
  show wpAny _ _ (updateSeq s.heap.objs.size (fun _ => #[]) >>= fun _ => letGo (#[] : Array Value).toList.reverse >>= fun _ => Builtin.List.listExtendWith (.ref s.heap.objs.size) (.ref it) .none) _ _ _
  refine wpAny_bind (wpAny_updateSeq hS rfl ?_)
  have hS₂ := Heap.get?_update_self (Obj.mapSeq (fun _ => (#[] : Array Value))) hS rfl
  have oth : ∀ b o, s.heap.get? b = some o → ((s.heap.push { cls := .type "list", data := .seq #[] }).update s.heap.objs.size (Obj.mapSeq (fun _ => (#[] : Array Value)))).get? b = some o :=
    fun b o e => (Heap.get?_update_other _ _ (Nat.ne_of_gt (Heap.lt_size e))).trans (Heap.get?_push_of_some _ e)
  refine wpAny_bind (wpAny_letGo ?_)
  have hit1 : ((s.heap.push { cls := .type "list", data := .seq #[] }).update s.heap.objs.size (Obj.mapSeq (fun _ => (#[] : Array Value)))).IsRevIter it l ((items.size : Int) - 1) := hit.at fun o e => oth _ o e
  have hl1 : ((s.heap.push { cls := .type "list", data := .seq #[] }).update s.heap.objs.size (Obj.mapSeq (fun _ => (#[] : Array Value)))).IsList l items := hl.at fun o e => oth _ o e
  have hT : ({ s with heap := (s.heap.push { cls := .type "list", data := .seq #[] }).update s.heap.objs.size (Obj.mapSeq (fun _ => (#[] : Array Value))) } : Shared).TypeIs (.ref it) "list_reverseiterator" := Heap.IsRevIter.typeIs (s := { s with heap := (s.heap.push { cls := .type "list", data := .seq #[] }).update s.heap.objs.size (Obj.mapSeq (fun _ => (#[] : Array Value))) }) hit1
  have h1 : Builtin.List.listSameRef (.ref s.heap.objs.size) (.ref it) = false := by simp [Builtin.List.listSameRef, hSi]
  have W := Walks.listRev (prog := prog) (w := w) (A := A.in1.in1) hh it l hne items
  unfold Builtin.List.listExtendWith
  refine wpAny_bind (wpAny_typeOf hT ?_)
  rw [if_neg (by rw [h1]; decide)]
  refine wpAny_bind (wpAny_pyIter_revIter (s := { s with heap := (s.heap.push { cls := .type "list", data := .seq #[] }).update s.heap.objs.size (Obj.mapSeq (fun _ => (#[] : Array Value))) }) hit1 ?_)
  refine wpAny_bind (wpAny_holding ?_)
  unfold Builtin.List.listLengthHint
  refine wpAny_bind (wpAny_specialOf hT nolen_lri ?_)
  show wpAny _ _ (specialOf (Value.ref it) (Str.ofString "__length_hint__") >>= _) _ _ _
  refine wpAny_bind (wpAny_specialOf hT hint_lri ?_)
  generalize hid : ("list_reverseiterator.__length_hint__" : String) = id0
  wp_delta
  rw [show splitId id0 = some ("list_reverseiterator", "__length_hint__") from by subst hid; decide +kernel]
  subst hid
  refine wpAny_bind (wpAny_isInstance (b := true) hT (by rw [isSubtype_type]; kernel_rfl) ?_)
  refine wpAny_pure ?_
  rw [if_neg (by decide)]
  have e0 : ((items.size : Nat) : Int) - 1 - ((0 : Nat) : Int) = (items.size : Int) - 1 := by omega
  refine wpAny_pure ⟨plainId_quiet F.plain_extend_loop _, codeAny_extend_loopS W.toS hn _ hSf _ items.size 0 _ _ _ rfl (Nat.zero_le _) ⟨Nat.zero_le _, by rw [e0]; exact hit1, hl1⟩ hS₂ (ItemsOf.nil _) fun s' acc' c' hm hS' hacc => ?_⟩
  rw [Moved.eq_with hm]
  refine ⟨rfl, hQ s'.heap s'.toks acc' c' (fun b o hb e => hm.heap b o (fun hmem => ?_) (oth b o e)) hS' hacc⟩
  rcases List.mem_cons.mp hmem with e' | hmem
  · exact absurd (Heap.lt_size e) (by rw [e']; exact Nat.lt_irrefl _)
  · exact hb (List.mem_singleton.mp hmem)
end
def tLstRev (K : PySem.W.Frag) (te : TE) : TE := fun σ H Q => te σ H fun v H1 => ∃ (a : Addr) (xs : List V), v = .ref a ∧ SqL K H1 a xs ∧ ∀ q, H1 q = none → Q (.ref q) (upd H1 q (.lst xs.reverse))
section
variable {X : Cx}
theorem pe_lstRev {e : Expr} {te : TE} {p p2 pos pos2 : Pos} (hc : X.calm = true) (hg : Gl X "list") (hm : X.mg "list" = none) (hg2 : Gl X "reversed") (hm2 : X.mg "reversed" = none) (he : PE X e te)
    (hs : starEach [e] X.env = (false, eval e X.env) :: starEach [] X.env := by rfl)
    (hs2 : starEach [.Call (.Name "reversed" p2) [e] [] pos2] X.env = (false, eval (.Call (.Name "reversed" p2) [e] [] pos2) X.env) :: starEach [] X.env := by rfl) :
    PE X (.Call (.Name "list" p) [.Call (.Name "reversed" p2) [e] [] pos2] [] pos) (tLstRev X.K te) := by
  refine ⟨fun pins s σ H Q I h => ?_⟩
  refine Call_ (ld_blt I hg hm (show bootBuiltins "list" = some (.type "list") by decide +kernel) (PyProof.Rows.callWith_type1 (args_cons (Call_ (ld_blt I hg2 hm2 PyProof.Rows.boot_reversed (PyProof.Rows.callWith_type1 (args_cons (thn (he.run pins s σ H _ I h) fun u s1 ⟨v, H1, I1, r1, q1⟩ => args_nil ?_) hs) hs rfl))) hs2) hs2 rfl))
  obtain ⟨a, xs, ev, hq, q⟩ := q1
  subst ev
  obtain rfl : u = Value.ref a := r1
  obtain ⟨its, rv, p', hz⟩ := I1.list hq
  refine call_reversed_list p'.isList (args_nil ?_)
  have k0 : ∀ b o, s1.heap.get? b = some o → (s1.heap.push (revObj a ((its.toArray.size : Int) - 1))).get? b = some o := fun b o e => Heap.get?_push_of_some _ e
  have I2 : Inv X pins σ H1 { s1 with heap := s1.heap.push (revObj a ((its.toArray.size : Int) - 1)) } := I1.kept (t' := s1.toks) k0
  obtain ⟨f0, f1, f2, f3, f4, f5⟩ := I1.fpOk (H' := H1) (b := s1.heap.objs.size) (Nat.le_refl _) (I1.hok.fresh (Nat.le_refl _))
  have hl := p'.isList
  obtain ⟨ol, hol, _⟩ := id hl
  have hne : a ≠ s1.heap.objs.size := Nat.ne_of_lt (Heap.lt_size hol)
  have hn : its.toArray.size ≤ sizeLine := by rw [List.size_toArray, ← rv.length]; exact hz
  refine list_rev (s := { s1 with heap := s1.heap.push (revObj a ((its.toArray.size : Int) - 1)) }) (I1.ok.hd hc) ⟨_, Heap.get?_push_size _ rfl, rfl, rfl⟩ (hl.push _) hne hn fun h' tk acc c' hk hS hi => ?_
  have hsz : (s1.heap.push (revObj a ((its.toArray.size : Int) - 1))).objs.size = s1.heap.objs.size + 1 := Heap.size_push ..
  have hnS : H1 (s1.heap.push (revObj a ((its.toArray.size : Int) - 1))).objs.size = none := I1.hok.fresh (by rw [hsz]; exact Nat.le_succ _)
  have hk' : ∀ b o, b ∉ [s1.heap.objs.size] → (s1.heap.push (revObj a ((its.toArray.size : Int) - 1))).get? b = some o → h'.get? b = some o := fun b o hb e => hk b o (fun z => hb (by simp [z])) e
  have nit : ∀ b u, H1 b = some u → b ≠ s1.heap.objs.size := fun b u e z => by rw [z, f0] at e; cases e
  have I3 : Inv X pins σ (upd H1 (s1.heap.push (revObj a ((its.toArray.size : Int) - 1))).objs.size (.lst xs.reverse)) { s1 with heap := h', toks := tk } := by
    refine Inv.step (s := { s1 with heap := s1.heap.push (revObj a ((its.toArray.size : Int) - 1)) }) (h' := h') (t' := tk) (g' := s1.gens) (d' := s1.drawn) (ch := [s1.heap.objs.size]) I2 (fun b hb => ?_) (fun b o _ _ hc e _ => hk' b o hc e) (fun b o _ _ hc e _ => ⟨o.slots, hk' b o hc e⟩) (fun b o hc e n => ?_) (fun b o hc e => ⟨o, hk' b o hc e⟩)
      (fun b ys e => by rw [upd_ne (ne_of_none e hnS)]; exact e) (fun b o u e => by rw [upd_ne (ne_of_none e hnS)]; exact e) (fun b ps e => ⟨#[], by rw [upd_ne (ne_of_none e hnS), e]; simp⟩) (fun m hm => ?_) (fun b u e => ?_) I2.bare
    · have e : b = s1.heap.objs.size := by simpa using hb
      subst e
      exact ⟨f3, f1, f4, f5⟩
    · rw [upd_ne (Nat.ne_of_lt (Heap.lt_size e))]; exact n
    · obtain ⟨o, es, ep, ho, r⟩ := hm
      exact ⟨o, es, ep, hk _ o (Ne.symm f1) ho, r⟩
    · by_cases hb : b = (s1.heap.push (revObj a ((its.toArray.size : Int) - 1))).objs.size
      · subst hb
        rw [upd_same] at e
        cases e
        exact ⟨by rw [List.length_reverse]; exact hz, acc.toList, c', vals_rev rv hi, by rw [Array.toArray_toList]; exact hS⟩
      · rw [upd_ne hb] at e
        refine (I2.hok b u e).stay (fun c v hc q => hk c v ?_ q) (fun c q => by rw [upd_ne (ne_of_none q hnS)]; exact q) fun c ys q => by rw [upd_ne (ne_of_none q hnS)]; exact q
        rcases hc with z | z
        · rw [z]; exact nit b u e
        · exact nit c _ z
  exact ⟨.ref _, _, I3, rfl, q _ hnS⟩
end
end Sy
namespace Sy
open PySem PySem.Spec PyProof.Rows L2

/-! ### a tuple times an int of any size below 1000 -/
theorem tuple_mul_same (l : Addr) (items : Array Value) (n : Nat) (dd : Option Addr) (sl : Array (Option Value)) (x : Int) (u : Tok) (c0 : (decide (x < -(2 ^ 63)) || decide (x ≥ 2 ^ 63)) = false) (c1 : (items.isEmpty || x == 1) = true) :
    Meets (Builtin.«tuple.__mul__» ⟨[.ref l, .int x u], []⟩) (fun _ R s => s.heap.get? l = some { cls := .type "tuple", dict := dd, data := .seq items n, slots := sl } ∧ R (.ok (.ret (Value.ref l))) s) :=
  .of_wp fun prog w A R s h => by
    obtain ⟨hp, g, d, tk, os⟩ := s
    obtain ⟨hl, h⟩ := h
    have f1 := AutoSeq1.idx_int
    wp_walk using wpAny_loadPart' hl
    repeat (first
      | (refine wpAny_ite_false (decide_eq_false (by rw [c0]; exact Bool.false_ne_true)) ?_; wp_walk using wpAny_loadPart' hl)
      | (refine wpAny_ite_true (decide_eq_true c1) ?_; wp_walk using wpAny_loadPart' hl)
      | (refine wpAny_ite_true (by decide +kernel) ?_; wp_walk using wpAny_loadPart' hl))
    exact ⟨_, rfl, h⟩
theorem tuple_mul_zero (l : Addr) (items : Array Value) (n : Nat) (dd : Option Addr) (sl : Array (Option Value)) (x : Int) (u : Tok) (c0 : (decide (x < -(2 ^ 63)) || decide (x ≥ 2 ^ 63)) = false) (c1 : (items.isEmpty || x == 1) = false) (c2 : (decide (x ≤ 0) || items.isEmpty) = true) :
    Meets (Builtin.«tuple.__mul__» ⟨[.ref l, .int x u], []⟩) (fun _ R s => s.heap.get? l = some { cls := .type "tuple", dict := dd, data := .seq items n, slots := sl } ∧ R (.ok (.ret (Value.ref s.heap.objs.size))) { s with heap := s.heap.push { cls := Value.type "tuple", data := Data.seq #[] }, toks := s.toks }) :=
  .of_wp fun prog w A R s h => by
    obtain ⟨hp, g, d, tk, os⟩ := s
    obtain ⟨hl, h⟩ := h
    have f1 := AutoSeq1.idx_int
    wp_walk using wpAny_loadPart' hl
    repeat (first
      | (refine wpAny_ite_false (decide_eq_false (by rw [c0]; exact Bool.false_ne_true)) ?_; wp_walk using wpAny_loadPart' hl)
      | (refine wpAny_ite_false (decide_eq_false (by rw [c1]; exact Bool.false_ne_true)) ?_; wp_walk using wpAny_loadPart' hl)
      | (refine wpAny_ite_true (decide_eq_true c2) ?_; wp_walk using wpAny_loadPart' hl)
      | (refine wpAny_ite_true (by decide +kernel) ?_; wp_walk using wpAny_loadPart' hl)
      | (refine wpAny_ite_false (decide_eq_false (Nat.not_lt.mpr (by show 0 ≤ sizeLine; exact Nat.zero_le _))) ?_; wp_walk using wpAny_loadPart' hl))
    exact ⟨_, rfl, h⟩
/-- t * k, k from -1000 to 1000 -/
def rRepA (K : PySem.W.Frag) : R2 := fun x y H Q => ∃ l k xs, x = .ref l ∧ y = .int k ∧ SqT K H l xs ∧ -1000 ≤ k ∧ k ≤ 1000 ∧ xs.length ≤ 1000 ∧ ((xs = [] ∨ k = 1) → Q (.ref l) H) ∧
  (xs ≠ [] → k ≠ 1 → ∀ p, H p = none → Q (.ref p) (upd H p (.tup (List.replicate k.toNat xs).flatten)))
theorem op_repA {X : Cx} : OpR X (binaryOp .Mult) (rRepA X.K) := by
  intro pins s σ H x y v u Q I rx ry h
  obtain ⟨l, k, xs, rfl, rfl, hT, h1, h2, hz, q0, q1⟩ := h
  by_cases hs : xs = [] ∨ k = 1
  · cases rx
    obtain ⟨t, rfl⟩ := ry
    obtain ⟨its, r, ⟨⟨cls, dd, data, sl⟩, ho, hc, n, hd⟩, hss⟩ := I.tuple hT
    simp only at hc hd
    subst hc hd
    have hle : its.length = xs.length := r.length.symm
    have c0 : (decide (k < -(2 ^ 63)) || decide (k ≥ 2 ^ 63)) = false := by
      rw [decide_eq_false (by omega), decide_eq_false (by omega)] <;> rfl
    have c1 : (its.toArray.isEmpty || k == 1) = true := by
      rcases hs with e | e
      · rw [e] at hle
        have : its = [] := List.eq_nil_of_length_eq_zero hle
        subst this
        rfl
      · subst e
        simp
    refine wpAny_binaryOp_repeat_ref (T := "tuple") (U := "int") (by decide) ⟨_, ho, rfl⟩ (fun s' => typeIs_int s' k t) noFill_tuple_mul F.fills_int_mul F.slot_int_rmul repeat_tuple F.slot_int_index.lookup
      (call_meets F.slot_int_rmul (typeIs_int s k t) F.entry_int_rmul (F.args_int_rmul_2 _ _) (int_rmul_tuple k t l its.toArray n dd sl)
        ⟨ho, rfl, ⟨_, ho, rfl⟩, call_meets F.slot_tuple_mul ⟨_, ho, rfl⟩ F.entry_tuple_mul (F.args_tuple_mul_2 _ _) (tuple_mul_same l its.toArray n dd sl k t c0 c1) ⟨ho, ?_⟩⟩)
    exact ⟨.ref l, H, I, rfl, q0 hs⟩
  · have hx : xs ≠ [] := fun e => hs (.inl e)
    have hk : k ≠ 1 := fun e => hs (.inr e)
    by_cases h3 : 2 ≤ k
    · exact op_repT pins s σ H _ _ v u Q I rx ry ⟨l, k, xs, rfl, rfl, hT, hx, h3, h2, hz, q1 hx hk⟩
    · have hk0 : k ≤ 0 := by omega
      cases rx
      obtain ⟨t, rfl⟩ := ry
      obtain ⟨its, r, ⟨⟨cls, dd, data, sl⟩, ho, hc, n, hd⟩, hss⟩ := I.tuple hT
      simp only at hc hd
      subst hc hd
      have hle : its.length = xs.length := r.length.symm
      have hi : its.toArray.isEmpty = false := by
        cases its with
        | nil => exact absurd (List.eq_nil_of_length_eq_zero hle.symm) hx
        | cons a b => rfl
      have c0 : (decide (k < -(2 ^ 63)) || decide (k ≥ 2 ^ 63)) = false := by
        rw [decide_eq_false (by omega), decide_eq_false (by omega)] <;> rfl
      have c1 : (its.toArray.isEmpty || k == 1) = false := by
        rw [hi, Bool.false_or]
        exact beq_eq_false_iff_ne.mpr hk
      have c2 : (decide (k ≤ 0) || its.toArray.isEmpty) = true := by
        rw [decide_eq_true hk0, Bool.true_or]
      refine wpAny_binaryOp_repeat_ref (T := "tuple") (U := "int") (by decide) ⟨_, ho, rfl⟩ (fun s' => typeIs_int s' k t) noFill_tuple_mul F.fills_int_mul F.slot_int_rmul repeat_tuple F.slot_int_index.lookup
        (call_meets F.slot_int_rmul (typeIs_int s k t) F.entry_int_rmul (F.args_int_rmul_2 _ _) (int_rmul_tuple k t l its.toArray n dd sl)
          ⟨ho, rfl, ⟨_, ho, rfl⟩, call_meets F.slot_tuple_mul ⟨_, ho, rfl⟩ F.entry_tuple_mul (F.args_tuple_mul_2 _ _) (tuple_mul_zero l its.toArray n dd sl k t c0 c1 c2) ⟨ho, ?_⟩⟩)
      have e0 : (List.replicate k.toNat xs).flatten = [] := by
        have : k.toNat = 0 := by omega
        rw [this]; rfl
      have q2 := q1 hx hk _ I.fresh
      rw [e0] at q2
      exact ⟨.ref s.heap.objs.size, _, I.laid (t' := s.toks) (o := .tup []) (fun b ob q => Heap.get?_push_of_some _ q) (Nat.le_refl _) ⟨Nat.zero_le _, [], .nil, IsTup.new _ _⟩, rfl, q2⟩

/-! ### the operators on data -/
def bl (b : Bool) : Option MV := some (.val (.bl b))
def it (i : Int) : Option MV := some (.val (.int i))
def addD : DV → DV → Option MV
  | .int a, .int b => it (a + b)
  | .str a, .str b => if a.length + b.length ≤ sizeLine then some (.val (.str (a ++ b))) else none
  | .lst a, .lst b => if a.length + b.length ≤ sizeLine then some (.lst (a ++ b)) else none
  | .tup a, .tup b => if a.length + b.length ≤ sizeLine then some (.val (.tup (a ++ b))) else none
  | _, _ => none
def subD : DV → DV → Option MV
  | .int a, .int b => it (a - b)
  | _, _ => none
def smallI (a : Int) : Prop := -(2 ^ 64) < a ∧ a < 2 ^ 64
noncomputable instance (a : Int) : Decidable (smallI a) := Classical.propDecidable _
def repLk (k : Int) (n : Nat) : Prop := -(2 ^ 63) ≤ k ∧ k < 2 ^ 63 ∧ n * k.toNat ≤ sizeLine
noncomputable instance (k : Int) (n : Nat) : Decidable (repLk k n) := Classical.propDecidable _
def repTk (k : Int) (n : Nat) : Prop := -1000 ≤ k ∧ k ≤ 1000 ∧ n ≤ 1000
noncomputable instance (k : Int) (n : Nat) : Decidable (repTk k n) := Classical.propDecidable _
noncomputable def mulD : DV → DV → Option MV
  | .int a, .int b => if smallI a ∨ smallI b then it (a * b) else none
  | .lst xs, .int k => if repLk k xs.length then some (.lst (List.replicate k.toNat xs).flatten) else none
  | .tup xs, .int k => if repTk k xs.length then some (.val (.tup (List.replicate k.toNat xs).flatten)) else none
  | _, _ => none
def fdivD : DV → DV → Option MV
  | .int a, .int b => if b ≠ 0 ∧ b.natAbs < 1073741824 then it (a.fdiv b) else none
  | _, _ => none
def modD : DV → DV → Option MV
  | .int a, .int b => if b ≠ 0 then it (a.fmod b) else none
  | _, _ => none
def powD : DV → DV → Option MV
  | .int a, .int b => if 0 ≤ b ∧ b ≤ 1000000 ∧ a.natAbs < 2 ^ 64 then it (a ^ b.toNat) else none
  | _, _ => none
def negD : DV → Option MV
  | .int a => it (-a)
  | _ => none
def revD : DV → Option MV
  | .lst xs => some (.lst xs.reverse)
  | .scr xs => some (.lst xs.reverse)
  | _ => none
section
variable {K : PySem.W.Frag} {P : Addr → Prop} {H : Hp} {Q : VK}
theorem new_val {m : DV} {v : V} (q : New K P H (.val m) Q) (r : RD K (hid H P) m v) : Q v H := q v H [] (Same.refl _) (fun a h => by simp at h) (.val (r.up (hid_less fun a h => h.elim id fun h => by simp at h)))
theorem new_int {i : Int} (q : New K P H (.val (.int i)) Q) : Q (.int i) H := new_val q (.int i)
theorem new_bl {i : Bool} (q : New K P H (.val (.bl i)) Q) : Q (.bl i) H := new_val q (.bl i)
theorem new_str {i : Str} (q : New K P H (.val (.str i)) Q) : Q (.str i) H := new_val q (.str i)
def rAddU (K : PySem.W.Frag) : R2 := fun x y H Q => rI0 (fun i j => .int (i + j)) x y H Q ∨ (∃ i j, x = .str i ∧ y = .str j ∧ i.length + j.length ≤ sizeLine ∧ Q (.str (i ++ j)) H) ∨ rCat x y H Q ∨ rCatA K x y H Q
theorem op_addU {X : Cx} : OpR X (binaryOp .Add) (rAddU X.K) := op_add.or (op_add_str.or (op_cat.or op_catA))
theorem lenS {ds : List DV} {vs : List V} {G : Hp} (r : RDs K G ds vs) : vs.length = ds.length := (RDs.length r).symm
theorem b_add : B2 K (rAddU K) addD := fun P H x y d e m Q h al rx ry q => by
  unfold addD at h
  split at h
  · cases h
    rw [rw_int rx, rw_int ry]
    exact .inl ⟨_, _, rfl, rfl, new_int q⟩
  · rename_i a b
    by_cases hc : a.length + b.length ≤ sizeLine
    · rw [if_pos hc] at h
      cases h
      rw [rw_str rx, rw_str ry]
      exact .inr (.inl ⟨_, _, rfl, rfl, hc, new_str q⟩)
    · rw [if_neg hc] at h; cases h
  · rename_i a b
    by_cases hc : a.length + b.length ≤ sizeLine
    · rw [if_pos hc] at h
      cases h
      obtain ⟨p, vs, rfl, h1, r1⟩ := rw_lst hid_same rx
      obtain ⟨p2, ws, rfl, h2, r2⟩ := rw_lst hid_same ry
      refine .inr (.inr (.inl ⟨p, p2, vs, ws, rfl, rfl, h1, h2, by rw [lenS r1, lenS r2]; exact hc, new_lst al (r1.append r2) q⟩))
    · rw [if_neg hc] at h; cases h
  · rename_i a b
    by_cases hc : a.length + b.length ≤ sizeLine
    · rw [if_pos hc] at h
      cases h
      obtain ⟨p, vs, rfl, g1, h1p, r1⟩ := rw_tupP hid_same rx
      have h1 := SqT.of (K := K) h1p
      obtain ⟨p2, ws, rfl, g2, h2p, r2⟩ := rw_tupP hid_same ry
      have h2 := SqT.of (K := K) h2p
      refine .inr (.inr (.inr ⟨p, p2, vs, ws, rfl, rfl, h1, h2, by rw [lenS r1, lenS r2]; exact hc, fun e => ?_, fun _ e => ?_, fun _ _ => new_tup al (r1.append r2) q⟩))
      · subst e
        cases r1
        exact new_val q (.tup g2 r2)
      · subst e
        cases r2
        refine new_val q (.tup g1 ?_)
        rw [List.append_nil]
        exact r1
    · rw [if_neg hc] at h; cases h
  · cases h
theorem b_sub : B2 K (rI0 fun i j => .int (i - j)) subD := fun P H x y d e m Q h al rx ry q => by
  unfold subD at h
  split at h
  · cases h
    rw [rw_int rx, rw_int ry]
    exact ⟨_, _, rfl, rfl, new_int q⟩
  · cases h
def rMulU (K : PySem.W.Frag) : R2 := fun x y H Q => rI CMul (fun i j => .int (i * j)) x y H Q ∨ rRep x y H Q ∨ rRepA K x y H Q
theorem op_mulU {X : Cx} : OpR X (binaryOp .Mult) (rMulU X.K) := op_mul.or (op_rep.or op_repA)
theorem b_mul : B2 K (rMulU K) mulD := fun P H x y d e m Q h al rx ry q => by
  unfold mulD at h
  split at h
  · rename_i a b
    by_cases hc : smallI a ∨ smallI b
    · rw [if_pos hc] at h
      cases h
      rw [rw_int rx, rw_int ry]
      exact .inl ⟨_, _, rfl, rfl, hc, new_int q⟩
    · rw [if_neg hc] at h; cases h
  · rename_i xs k
    by_cases hc : repLk k xs.length
    · rw [if_pos hc] at h
      cases h
      obtain ⟨p, vs, rfl, h1, r1⟩ := rw_lst hid_same rx
      rw [rw_int ry]
      exact .inr (.inl ⟨p, k, vs, rfl, rfl, h1, hc.1, hc.2.1, by rw [lenS r1]; exact hc.2.2, new_lst al (r1.rep k.toNat) q⟩)
    · rw [if_neg hc] at h; cases h
  · rename_i xs k
    by_cases hc : repTk k xs.length
    · rw [if_pos hc] at h
      cases h
      obtain ⟨p, vs, rfl, g1, h1p, r1⟩ := rw_tupP hid_same rx
      have h1 := SqT.of (K := K) h1p
      rw [rw_int ry]
      refine .inr (.inr ⟨p, k, vs, rfl, rfl, h1, hc.1, hc.2.1, by rw [lenS r1]; exact hc.2.2, fun e => ?_, fun _ _ => new_tup al (r1.rep k.toNat) q⟩)
      refine new_val q (.tup g1 ?_)
      rcases e with e | e
      · subst e
        cases r1
        have : (List.replicate k.toNat ([] : List DV)).flatten = [] := by simp
        rw [this]
        exact .nil
      · subst e
        have : (List.replicate (1 : Int).toNat xs).flatten = xs := by simp
        rw [this]
        exact r1
    · rw [if_neg hc] at h; cases h
  · cases h
theorem b_fdiv : B2 K (rI CDivN fun i j => .int (i.fdiv j)) fdivD := fun P H x y d e m Q h al rx ry q => by
  unfold fdivD at h
  split at h
  · rename_i a b
    by_cases hc : b ≠ 0 ∧ b.natAbs < 1073741824
    · rw [if_pos hc] at h
      cases h
      rw [rw_int rx, rw_int ry]
      exact ⟨_, _, rfl, rfl, hc, new_int q⟩
    · rw [if_neg hc] at h; cases h
  · cases h
theorem b_mod : B2 K (rI (fun _ j => j ≠ 0) fun i j => .int (i.fmod j)) modD := fun P H x y d e m Q h al rx ry q => by
  unfold modD at h
  split at h
  · rename_i a b
    by_cases hc : b ≠ 0
    · rw [if_pos hc] at h
      cases h
      rw [rw_int rx, rw_int ry]
      exact ⟨_, _, rfl, rfl, hc, new_int q⟩
    · rw [if_neg hc] at h; cases h
  · cases h
theorem b_pow : B2 K (rI CPow fun i j => .int (i ^ j.toNat)) powD := fun P H x y d e m Q h al rx ry q => by
  unfold powD at h
  split at h
  · rename_i a b
    by_cases hc : 0 ≤ b ∧ b ≤ 1000000 ∧ a.natAbs < 2 ^ 64
    · rw [if_pos hc] at h
      cases h
      rw [rw_int rx, rw_int ry]
      exact ⟨_, _, rfl, rfl, hc, new_int q⟩
    · rw [if_neg hc] at h; cases h
  · cases h
theorem b_neg : B1 K (rU fun i => .int (-i)) negD := fun P H x d m Q h al rx q => by
  unfold negD at h
  split at h
  · cases h
    rw [rw_int rx]
    exact ⟨_, rfl, new_int q⟩
  · cases h
def rLstRev (K : PySem.W.Frag) : V → Hp → VK → Prop := fun v H Q => ∃ (a : Addr) (xs : List V), v = .ref a ∧ SqL K H a xs ∧ ∀ q, H q = none → Q (.ref q) (upd H q (.lst xs.reverse))
theorem b_lstRev : B1 K (rLstRev K) revD := fun P H x d m Q h al rx q => by
  unfold revD at h
  split at h
  · cases h
    obtain ⟨p, vs, rfl, h1, r1⟩ := rw_lst hid_same rx
    exact ⟨p, vs, rfl, SqL.of h1, new_lst al r1.reverse q⟩
  · cases h
    obtain ⟨p, vs, rfl, h1, r1⟩ := rw_scr hid_same rx
    exact ⟨p, vs, rfl, h1, new_lst al r1.reverse q⟩
  · cases h
end
theorem se_lstRev {X : Cx} {e : Expr} {ma : EM} {p p2 pos pos2 : Pos} (hc : X.calm = true) (hm : X.mg "list" = none) (hm2 : X.mg "reversed" = none) (he : SE X e ma) (hg : Gl X "list" := by rfl) (hg2 : Gl X "reversed" := by rfl)
    (hs : starEach [e] X.env = (false, eval e X.env) :: starEach [] X.env := by rfl)
    (hs2 : starEach [.Call (.Name "reversed" p2) [e] [] pos2] X.env = (false, eval (.Call (.Name "reversed" p2) [e] [] pos2) X.env) :: starEach [] X.env := by rfl) :
    SE X (.Call (.Name "list" p) [.Call (.Name "reversed" p2) [e] [] pos2] [] pos) (E.un revD ma) := (pe_lstRev hc hg hm hg2 hm2 he hs hs2).imp fun σ H Q q => un_imp b_lstRev q
end Sy
namespace Sy
open PySem PySem.Spec PyProof.Rows L2

/-! ### comparisons -/
mutual
def toP : DV → PyData
  | .non => .none
  | .bl b => .bool b
  | .int i => .int i
  | .str x => .str x
  | .tup xs => .tuple (toPs xs)
  | .lst xs => .list (toPs xs)
  | .scr xs => .list (toPs xs)
  | .ty _ => .none
  | .obj _ _ _ => .none
  | .xcp _ _ _ _ => .none
  | .dct _ _ => .none
def toPs : List DV → List PyData
  | [] => []
  | d :: ds => toP d :: toPs ds
end
mutual
/-- a class has no data -/
def isD : DV → Bool
  | .ty _ => false
  | .obj _ _ _ => false
  | .xcp _ _ _ _ => false
  | .dct _ _ => false
  | .tup xs => isDs xs
  | .lst xs => isDs xs
  | .scr xs => isDs xs
  | _ => true
def isDs : List DV → Bool
  | [] => true
  | d :: ds => isD d && isDs ds
end
def okD (d : DV) : Bool := isD d && SeqAt.shaped (toP d)
def eqD (d e : DV) : Option MV := if okD d = true ∧ okD e = true then bl (PyData.eqv (toP d) (toP e)) else none
def neD (d e : DV) : Option MV := if okD d = true ∧ okD e = true then bl (!PyData.eqv (toP d) (toP e)) else none
section
variable {K : PySem.W.Frag} {G H : Hp}
mutual
theorem rd_dp (s : Same G H) : ∀ (d : DV) (v : V), isD d = true → RD K G d v → Dp K H v (toP d)
  | .non, _, _, h => by cases h; exact .non
  | .bl b, _, _, h => by cases h; exact .bl b
  | .int b, _, _, h => by cases h; exact .int b
  | .str b, _, _, h => by cases h; exact .str b
  | .ty _, _, i, _ => by unfold isD at i; cases i
  | .obj _ _ _, _, i, _ => by unfold isD at i; cases i
  | .xcp _ _ _ _, _, i, _ => by unfold isD at i; cases i
  | .dct _ _, _, i, _ => by unfold isD at i; cases i
  | .tup ds, _, i, h => by
    cases h with
    | tup q r => unfold toP; unfold isD at i; exact .tup (SqT.of (s _ _ q)) (rds_dp s ds _ i r)
  | .lst ds, _, i, h => by
    cases h with
    | lst q r => unfold toP; unfold isD at i; exact .lst (SqL.of (s _ _ q)) (rds_dp s ds _ i r)
  | .scr ds, _, i, h => by
    cases h with
    | scr q r => unfold toP; unfold isD at i; exact .lst (s.seq q) (rds_dp s ds _ i r)
theorem rds_dp (s : Same G H) : ∀ (ds : List DV) (vs : List V), isDs ds = true → RDs K G ds vs → DpAll K H vs (toPs ds)
  | [], _, _, h => by cases h; exact .nil
  | d :: ds, _, i, h => by
    cases h with
    | cons q r =>
      unfold isDs at i
      rw [Bool.and_eq_true] at i
      exact .cons (rd_dp s d _ i.1 q) (rds_dp s ds _ i.2 r)
end
theorem rw_dp (s : Same G H) {d : DV} {v : V} (h : RW K G H d v) (i : isD d = true) : Dp K H v (toP d) := by
  cases h with
  | rd q => exact rd_dp s d v i q
  | own e q => unfold toP; unfold isD at i; exact .lst (SqL.of e) (rds_dp s _ _ i q)
  | owo e l q => unfold isD at i; cases i
  | owd e l q => unfold isD at i; cases i
  | owb e l q => unfold isD at i; cases i
end
section
variable {K : PySem.W.Frag}
theorem b_eq : B2 K (rEqD K) eqD := fun P H x y d e m Q h al rx ry q => by
  unfold eqD at h
  by_cases hc : okD d = true ∧ okD e = true
  · rw [if_pos hc] at h
    cases h
    obtain ⟨h1, h2⟩ := hc
    unfold okD at h1 h2
    rw [Bool.and_eq_true] at h1 h2
    exact ⟨_, _, rw_dp hid_same rx h1.1, rw_dp hid_same ry h2.1, h1.2, h2.2, new_bl q⟩
  · rw [if_neg hc] at h; cases h
theorem b_ne : B2 K (rNeD K) neD := fun P H x y d e m Q h al rx ry q => by
  unfold neD at h
  by_cases hc : okD d = true ∧ okD e = true
  · rw [if_pos hc] at h
    cases h
    obtain ⟨h1, h2⟩ := hc
    unfold okD at h1 h2
    rw [Bool.and_eq_true] at h1 h2
    exact ⟨_, _, rw_dp hid_same rx h1.1, rw_dp hid_same ry h2.1, h1.2, h2.2, new_bl q⟩
  · rw [if_neg hc] at h; cases h
/-- the ints of a list of data -/
def intsOf : List DV → Option (List Int)
  | [] => some []
  | .int i :: ds => (intsOf ds).map (i :: ·)
  | _ => none
theorem intsOf_ok {G : Hp} : ∀ {ds : List DV} {vs : List V} {ns : List Int}, intsOf ds = some ns → RDs K G ds vs → vs = ns.map V.int
  | [], vs, ns, h, r => by cases h; cases r; rfl
  | d :: ds, vs, ns, h, r => by
    cases r with
    | cons q r =>
      cases d with
      | int i =>
        unfold intsOf at h
        obtain ⟨ms, e1, e2⟩ := map_some h
        subst e2
        cases q
        rw [intsOf_ok e1 r]
        rfl
      | _ => cases h
def ltD : DV → DV → Option MV
  | .int a, .int b => bl (decide (a < b))
  | .str a, .str b => bl (decide (a.cps.toList < b.cps.toList))
  | .tup a, .tup b => match intsOf a, intsOf b with
    | some ns, some ms => bl (HT.lexLt ns ms)
    | _, _ => none
  | _, _ => none
def leD : DV → DV → Option MV
  | .int a, .int b => bl (decide (a ≤ b))
  | .str a, .str b => bl (!decide (b.cps.toList < a.cps.toList))
  | _, _ => none
def gtD : DV → DV → Option MV
  | .int a, .int b => bl (decide (b < a))
  | .str a, .str b => bl (decide (b.cps.toList < a.cps.toList))
  | _, _ => none
def geD : DV → DV → Option MV
  | .int a, .int b => bl (decide (b ≤ a))
  | .str a, .str b => bl (!decide (a.cps.toList < b.cps.toList))
  | _, _ => none
def rLtU (K : PySem.W.Frag) : R2 := fun x y H Q => rI0 (fun i j => .bl (decide (i < j))) x y H Q ∨ (∃ i j, x = .str i ∧ y = .str j ∧ Q (.bl (decide (i.cps.toList < j.cps.toList))) H) ∨ rLtT K x y H Q
theorem op_ltU {X : Cx} (hu : X.A.units < cLine) : OpR X (compareOp .Lt) (rLtU X.K) := op_lt.or (op_lt_str.or (op_ltT hu))
theorem b_lt : B2 K (rLtU K) ltD := fun P H x y d e m Q h al rx ry q => by
  unfold ltD at h
  split at h
  · cases h
    rw [rw_int rx, rw_int ry]
    exact .inl ⟨_, _, rfl, rfl, new_bl q⟩
  · cases h
    rw [rw_str rx, rw_str ry]
    exact .inr (.inl ⟨_, _, rfl, rfl, new_bl q⟩)
  · split at h
    · rename_i e1 e2
      cases h
      obtain ⟨p, vs, rfl, _, h1, r1⟩ := rw_tup hid_same rx
      obtain ⟨p2, ws, rfl, _, h2, r2⟩ := rw_tup hid_same ry
      rw [intsOf_ok e1 r1] at h1
      rw [intsOf_ok e2 r2] at h2
      exact .inr (.inr ⟨p, p2, _, _, rfl, rfl, h1, h2, new_bl q⟩)
    · cases h
  · cases h
def rLeU : R2 := fun x y H Q => rI0 (fun i j => .bl (decide (i ≤ j))) x y H Q ∨ (∃ i j, x = .str i ∧ y = .str j ∧ Q (.bl (!decide (j.cps.toList < i.cps.toList))) H)
def rGtU : R2 := fun x y H Q => rI0 (fun i j => .bl (decide (j < i))) x y H Q ∨ (∃ i j, x = .str i ∧ y = .str j ∧ Q (.bl (decide (j.cps.toList < i.cps.toList))) H)
def rGeU : R2 := fun x y H Q => rI0 (fun i j => .bl (decide (j ≤ i))) x y H Q ∨ (∃ i j, x = .str i ∧ y = .str j ∧ Q (.bl (!decide (i.cps.toList < j.cps.toList))) H)
theorem op_leU {X : Cx} : OpR X (compareOp .LtE) rLeU := op_le.or op_le_str
theorem op_gtU {X : Cx} : OpR X (compareOp .Gt) rGtU := op_gt.or op_gt_str
theorem op_geU {X : Cx} : OpR X (compareOp .GtE) rGeU := op_ge.or op_ge_str
theorem b_le : B2 K rLeU leD := fun P H x y d e m Q h al rx ry q => by
  unfold leD at h
  split at h
  · cases h
    rw [rw_int rx, rw_int ry]
    exact .inl ⟨_, _, rfl, rfl, new_bl q⟩
  · cases h
    rw [rw_str rx, rw_str ry]
    exact .inr ⟨_, _, rfl, rfl, new_bl q⟩
  · cases h
theorem b_gt : B2 K rGtU gtD := fun P H x y d e m Q h al rx ry q => by
  unfold gtD at h
  split at h
  · cases h
    rw [rw_int rx, rw_int ry]
    exact .inl ⟨_, _, rfl, rfl, new_bl q⟩
  · cases h
    rw [rw_str rx, rw_str ry]
    exact .inr ⟨_, _, rfl, rfl, new_bl q⟩
  · cases h
theorem b_ge : B2 K rGeU geD := fun P H x y d e m Q h al rx ry q => by
  unfold geD at h
  split at h
  · cases h
    rw [rw_int rx, rw_int ry]
    exact .inl ⟨_, _, rfl, rfl, new_bl q⟩
  · cases h
    rw [rw_str rx, rw_str ry]
    exact .inr ⟨_, _, rfl, rfl, new_bl q⟩
  · cases h
/-- is None, is not None -/
def isNon : DV → Bool
  | .non => true
  | _ => false
def isD2 : DV → DV → Option MV
  | d, .non => bl (isNon d)
  | _, _ => none
def isntD : DV → DV → Option MV
  | d, .non => bl (!isNon d)
  | _, _ => none
theorem isNon_ok {G H : Hp} {d : DV} {v : V} (r : RW K G H d v) : decide (v = .non) = isNon d := by
  cases r with
  | rd q => cases q <;> rfl
  | own _ _ => rfl
  | owo _ _ _ => rfl
  | owd _ _ _ => rfl
  | owb _ _ _ => rfl
def rIsN : R2 := fun x y H Q => y = .non ∧ Q (.bl (decide (x = .non))) H
def rNotN : R2 := fun x y H Q => y = .non ∧ Q (.bl (!decide (x = .non))) H
theorem op_isNu {X : Cx} : OpR X (compareOp .Is) rIsN := op_isN
theorem op_notNu {X : Cx} : OpR X (compareOp .IsNot) rNotN := op_notN
theorem b_is : B2 K rIsN isD2 := fun P H x y d e m Q h al rx ry q => by
  unfold isD2 at h
  split at h
  · cases h
    exact ⟨rw_non ry, by rw [isNon_ok rx]; exact new_bl q⟩
  · cases h
theorem b_isnt : B2 K rNotN isntD := fun P H x y d e m Q h al rx ry q => by
  unfold isntD at h
  split at h
  · cases h
    exact ⟨rw_non ry, by rw [isNon_ok rx]; exact new_bl q⟩
  · cases h

/-! ### items, slices -/
def ixD : DV → DV → Option MV
  | .lst xs, .int i => (atI xs i).map .val
  | .scr xs, .int i => (atI xs i).map .val
  | .tup xs, .int i => (atI xs i).map .val
  | .str x, .int i => if x.length ≤ sizeLine then (atI x.cps.toList i).map fun c => .val (.str ⟨#[c]⟩) else none
  | _, _ => none
theorem atI_rds {G : Hp} {ds : List DV} {vs : List V} {i : Int} {d : DV} (r : RDs K G ds vs) (h : atI ds i = some d) : ∃ v, atI vs i = some v ∧ RD K G d v := by
  unfold atI at h ⊢
  rw [lenS r]
  cases e : ixN ds.length i with
  | none => rw [e] at h; cases h
  | some j =>
    rw [e] at h
    exact r.get h
theorem b_ix : B2 K (rIx K) ixD := fun P H x y d e m Q h al rx ry q => by
  unfold ixD at h
  split at h
  · obtain ⟨d, e1, e2⟩ := map_some h
    subst e2
    obtain ⟨p, vs, rfl, h1, r1⟩ := rw_lst hid_same rx
    obtain ⟨v, ev, rv⟩ := atI_rds r1 e1
    exact .inl ⟨p, vs, _, v, rfl, rw_int ry, SqL.of h1, ev, new_val q rv⟩
  · obtain ⟨d, e1, e2⟩ := map_some h
    subst e2
    obtain ⟨p, vs, rfl, h1, r1⟩ := rw_scr hid_same rx
    obtain ⟨v, ev, rv⟩ := atI_rds r1 e1
    exact .inl ⟨p, vs, _, v, rfl, rw_int ry, h1, ev, new_val q rv⟩
  · obtain ⟨d, e1, e2⟩ := map_some h
    subst e2
    obtain ⟨p, vs, rfl, _, h1, r1⟩ := rw_tup hid_same rx
    obtain ⟨v, ev, rv⟩ := atI_rds r1 e1
    exact .inr (.inl ⟨p, vs, _, v, rfl, rw_int ry, h1, ev, new_val q rv⟩)
  · rename_i x i
    by_cases hc : x.length ≤ sizeLine
    · rw [if_pos hc] at h
      obtain ⟨c, e1, e2⟩ := map_some h
      subst e2
      exact .inr (.inr ⟨x, i, c, rw_str rx, rw_int ry, hc, e1, new_str q⟩)
    · rw [if_neg hc] at h; cases h
  · cases h
def cutL {α : Type} (xs : List α) (lo hi : Option Int) : List α := (xs.drop (HT.sIx xs.length 0 lo)).take (HT.sIx xs.length xs.length hi - HT.sIx xs.length 0 lo)
def slD : DV → Option Int → Option Int → Option MV
  | .lst xs, lo, hi => some (.lst (cutL xs lo hi))
  | .scr xs, lo, hi => some (.lst (cutL xs lo hi))
  | .tup xs, lo, hi => some (.val (.tup (cutL xs lo hi)))
  | .str x, lo, hi => if x.length ≤ sizeLine then some (.val (.str (cutS x lo hi))) else none
  | _, _, _ => none
theorem cutL_rds {G : Hp} {ds : List DV} {vs : List V} (lo hi : Option Int) (r : RDs K G ds vs) : RDs K G (cutL ds lo hi) (cutV vs lo hi) := by
  unfold cutL cutV
  rw [lenS r]
  exact RDs.take _ (RDs.drop _ r)
def rSlU (K : PySem.W.Frag) : V → Option Int → Option Int → Hp → VK → Prop := fun x lo hi H Q => rSlL K x lo hi H Q ∨ rSlA K x lo hi H Q ∨ rSlS x lo hi H Q
theorem sl_U {X : Cx} : SlR X (rSlU X.K) := sl_list.or (sl_tupA.or sl_str)
theorem b_sl : BS K (rSlU K) slD := fun P H x d lo hi m Q h al rx q => by
  unfold slD at h
  split at h
  · cases h
    obtain ⟨p, vs, rfl, h1, r1⟩ := rw_lst hid_same rx
    exact .inl ⟨p, vs, rfl, SqL.of h1, new_lst al (cutL_rds _ _ r1) q⟩
  · cases h
    obtain ⟨p, vs, rfl, h1, r1⟩ := rw_scr hid_same rx
    exact .inl ⟨p, vs, rfl, h1, new_lst al (cutL_rds _ _ r1) q⟩
  · rename_i xs
    cases h
    obtain ⟨p, vs, rfl, g1, h1p, r1⟩ := rw_tupP hid_same rx
    have h1 := SqT.of (K := K) h1p
    refine .inr (.inl ⟨p, vs, rfl, h1, fun e => ?_, fun _ => new_tup al (cutL_rds _ _ r1) q⟩)
    rw [lenS r1] at e
    refine new_val q ?_
    have : cutL xs lo hi = xs := by
      unfold cutL
      rw [e.1, e.2]
      simp
    rw [this]
    exact .tup g1 r1
  · rename_i x
    by_cases hc : x.length ≤ sizeLine
    · rw [if_pos hc] at h
      cases h
      exact .inr (.inr ⟨x, rw_str rx, hc, new_str q⟩)
    · rw [if_neg hc] at h; cases h
  · cases h

/-! ### built-in functions -/
def lenD : List DV → Option MV
  | [.lst xs] => it xs.length
  | [.scr xs] => it xs.length
  | [.tup xs] => it xs.length
  | [.str x] => if x.length ≤ sizeLine then it x.length else none
  | _ => none
def rLenU (K : PySem.W.Frag) : List V → Hp → VK → Prop := fun xs H Q => (∃ p ys, xs = [.ref p] ∧ (SqL K H p ys ∨ SqT K H p ys) ∧ Q (.int ys.length) H) ∨ (∃ z, xs = [.str z] ∧ z.length ≤ sizeLine ∧ Q (.int z.length) H)
theorem call_lenU {X : Cx} : CallR X (.builtin "len") (rLenU X.K) := call_len_seq.or call_len_str
theorem b_len : BL K (rLenU K) lenD := fun P H xs ds m Q h al r q => by
  unfold lenD at h
  split at h
  · cases h
    obtain ⟨v, rfl, rv⟩ := rws1 r
    obtain ⟨p, vs, rfl, h1, r1⟩ := rw_lst hid_same rv
    exact .inl ⟨p, vs, rfl, .inl (SqL.of h1), by rw [lenS r1]; exact new_int q⟩
  · cases h
    obtain ⟨v, rfl, rv⟩ := rws1 r
    obtain ⟨p, vs, rfl, h1, r1⟩ := rw_scr hid_same rv
    exact .inl ⟨p, vs, rfl, .inl h1, by rw [lenS r1]; exact new_int q⟩
  · cases h
    obtain ⟨v, rfl, rv⟩ := rws1 r
    obtain ⟨p, vs, rfl, _, h1, r1⟩ := rw_tup hid_same rv
    exact .inl ⟨p, vs, rfl, .inr h1, by rw [lenS r1]; exact new_int q⟩
  · rename_i x
    by_cases hc : x.length ≤ sizeLine
    · rw [if_pos hc] at h
      cases h
      obtain ⟨v, rfl, rv⟩ := rws1 r
      exact .inr ⟨x, by rw [rw_str rv], hc, new_int q⟩
    · rw [if_neg hc] at h; cases h
  · cases h
def absD : List DV → Option MV
  | [.int i] => it (if i < 0 then -i else i)
  | _ => none
theorem b_abs : BL K (fun xs H Q => ∃ i, xs = [.int i] ∧ Q (.int (if i < 0 then -i else i)) H) absD := fun P H xs ds m Q h al r q => by
  unfold absD at h
  split at h
  · cases h
    obtain ⟨v, rfl, rv⟩ := rws1 r
    exact ⟨_, by rw [rw_int rv], new_int q⟩
  · cases h
def intD : List DV → Option MV
  | [.int i] => it i
  | [.bl k] => it (if k then 1 else 0)
  | _ => none
theorem b_int : BL K (fun xs H Q => (∃ i, xs = [.int i] ∧ Q (.int i) H) ∨ ∃ k, xs = [.bl k] ∧ Q (.int (if k then 1 else 0)) H) intD := fun P H xs ds m Q h al r q => by
  unfold intD at h
  split at h
  · cases h
    obtain ⟨v, rfl, rv⟩ := rws1 r
    exact .inl ⟨_, by rw [rw_int rv], new_int q⟩
  · cases h
    obtain ⟨v, rfl, rv⟩ := rws1 r
    exact .inr ⟨_, by rw [rw_bl rv], new_int q⟩
  · cases h
def listD : List DV → Option MV
  | [.lst xs] => some (.lst xs)
  | [.scr xs] => some (.lst xs)
  | [.tup xs] => some (.lst xs)
  | _ => none
theorem b_list : BL K (fun xs H Q => ∃ p ys, xs = [.ref p] ∧ (SqL K H p ys ∨ SqT K H p ys) ∧ ∀ l, H l = none → Q (.ref l) (upd H l (.lst ys))) listD := fun P H xs ds m Q h al r q => by
  unfold listD at h
  split at h
  · cases h
    obtain ⟨v, rfl, rv⟩ := rws1 r
    obtain ⟨p, vs, rfl, h1, r1⟩ := rw_lst hid_same rv
    exact ⟨p, vs, rfl, .inl (SqL.of h1), new_lst al r1 q⟩
  · cases h
    obtain ⟨v, rfl, rv⟩ := rws1 r
    obtain ⟨p, vs, rfl, h1, r1⟩ := rw_scr hid_same rv
    exact ⟨p, vs, rfl, .inl h1, new_lst al r1 q⟩
  · cases h
    obtain ⟨v, rfl, rv⟩ := rws1 r
    obtain ⟨p, vs, rfl, _, h1, r1⟩ := rw_tup hid_same rv
    exact ⟨p, vs, rfl, .inr h1, new_lst al r1 q⟩
  · cases h
def tupleD : List DV → Option MV
  | [.lst xs] => some (.val (.tup xs))
  | [.scr xs] => some (.val (.tup xs))
  | [.tup xs] => some (.val (.tup xs))
  | _ => none
theorem b_tuple : BL K (fun xs H Q => ∃ p ys, xs = [.ref p] ∧ ((SqL K H p ys ∧ ∀ l, H l = none → Q (.ref l) (upd H l (.tup ys))) ∨ (SqT K H p ys ∧ Q (.ref p) H))) tupleD := fun P H xs ds m Q h al r q => by
  unfold tupleD at h
  split at h
  · cases h
    obtain ⟨v, rfl, rv⟩ := rws1 r
    obtain ⟨p, vs, rfl, h1, r1⟩ := rw_lst hid_same rv
    exact ⟨p, vs, rfl, .inl ⟨SqL.of h1, new_tup al r1 q⟩⟩
  · cases h
    obtain ⟨v, rfl, rv⟩ := rws1 r
    obtain ⟨p, vs, rfl, h1, r1⟩ := rw_scr hid_same rv
    exact ⟨p, vs, rfl, .inl ⟨h1, new_tup al r1 q⟩⟩
  · cases h
    obtain ⟨v, rfl, rv⟩ := rws1 r
    obtain ⟨p, vs, rfl, g1, h1p, r1⟩ := rw_tupP hid_same rv
    have h1 := SqT.of (K := K) h1p
    exact ⟨p, vs, rfl, .inr ⟨h1, new_val q (.tup g1 r1)⟩⟩
  · cases h
def sumD : List DV → Option MV
  | [.lst xs] => (intsOf xs).bind fun ns => it ns.sum
  | _ => none
theorem b_sum : BL K (rSum K) sumD := fun P H xs ds m Q h al r q => by
  unfold sumD at h
  split at h
  · rename_i xs
    cases e : intsOf xs with
    | none => rw [e] at h; cases h
    | some ns =>
      rw [e] at h
      cases h
      obtain ⟨v, rfl, rv⟩ := rws1 r
      obtain ⟨p, vs, rfl, h1, r1⟩ := rw_lst hid_same rv
      rw [intsOf_ok e r1] at h1
      exact ⟨p, ns, rfl, SqL.of h1, new_int q⟩
  · cases h
def tyOf : DV → Option Ty
  | .non => some .non
  | .bl _ => some .bl
  | .int _ => some .int
  | .str _ => some .str
  | .tup _ => some .tup
  | .lst _ => some .lst
  | _ => none
def subTy (a b : Ty) : Bool := a = b || (a = .bl && b = .int)
theorem kit_sub : ∀ a b : Ty, kitB a.name b.name = some (subTy a b) := by
  intro a b
  cases a <;> cases b <;> decide +kernel
def isiD : List DV → Option MV
  | [d, .ty t] => (tyOf d).bind fun a => bl (subTy a t)
  | _ => none
theorem sqt_ty {H : Hp} {a : Addr} {xs : List V} (h : SqT K H a xs) : TyX K H (.ref a) (.type "tuple") := by
  rcases h with (h | ⟨o, h⟩) | ⟨o, its, n, h, c, _⟩
  · exact .base (.tup h)
  · exact .fTuple h
  · exact .kTuple h c
theorem b_isi : BL K (rIsi K) isiD := fun P H xs ds m Q h al r q => by
  unfold isiD at h
  split at h
  · rename_i d t
    obtain ⟨v, w, rfl, rv, rw'⟩ := rws2 r
    have ew : w = .ty t.name := by
      cases rw' with
      | rd q => cases q; rfl
    subst ew
    cases e : tyOf d with
    | none => rw [e] at h; cases h
    | some a =>
      rw [e] at h
      cases h
      have ty : TyX K H v (.type a.name) := by
        cases d with
        | non => cases e; rw [rw_non rv]; exact .base .non
        | bl b => cases e; rw [rw_bl rv]; exact .base (.bl _)
        | int b => cases e; rw [rw_int rv]; exact .base (.int _)
        | str b => cases e; rw [rw_str rv]; exact .base (.str _)
        | tup b =>
          cases e
          obtain ⟨p, vs, rfl, _, h1, r1⟩ := rw_tup hid_same rv
          exact sqt_ty h1
        | lst b =>
          cases e
          obtain ⟨p, vs, rfl, h1, r1⟩ := rw_lst hid_same rv
          exact .base (.lst h1)
        | scr b => cases e
        | ty b => cases e
        | obj _ _ _ => cases e
        | xcp _ _ _ _ => cases e
        | dct _ _ => cases e
      exact ⟨v, _, _, _, _, rfl, .ty _, ty, kit_ty (kit_sub a t), new_bl q⟩
  · cases h

/-! ### methods of lists -/
def appF : List DV → List DV → Option (DV × List DV)
  | xs, [d] => if xs.length ≤ 10000000 then some (.non, xs ++ [d]) else none
  | _, _ => none
theorem big {n : Nat} (h : n ≤ 10000000) : n < sizeLine := by rw [sizeLine_eq]; omega
theorem bm_append : BM K rAppend appF := fun P H a vs ws xs ds d xs' Q h hH rx rd q => by
  unfold appF at h
  split at h
  · rename_i d
    by_cases hc : xs.length ≤ 10000000
    · rw [if_pos hc] at h
      cases h
      cases rd with
      | cons r1 r2 =>
        cases r2
        exact ⟨a, vs, _, rfl, rfl, hH, by rw [lenS rx]; exact big hc, q _ _ (rx.append (.cons r1 .nil)) .non⟩
    · rw [if_neg hc] at h; cases h
  · cases h
def popF : List DV → List DV → Option (DV × List DV)
  | xs, [] => xs.getLast?.map fun d => (d, xs.dropLast)
  | _, _ => none
theorem bm_pop : BM K rPop popF := fun P H a vs ws xs ds d xs' Q h hH rx rd q => by
  unfold popF at h
  split at h
  · obtain ⟨y, e1, e2⟩ := map_some h
    cases e2
    cases rd
    rw [List.getLast?_eq_getElem?] at e1
    obtain ⟨v, ev, rv⟩ := rx.get e1
    exact ⟨a, vs, v, rfl, rfl, hH, by rw [lenS rx]; exact ev, q _ _ rx.dropLast rv⟩
  · cases h
end
section
variable {X : Cx} {pos p : Pos} {x : Str} {es : List Expr} {ms : AM}
/-- x.m(e, ..): a list's own method -/
theorem se_mth (i : Nat) {apos cpos : Pos} {name : Str} {id : String} {e : Expr} {r : V → List V → Hp → VK → Prop} {f : List DV → List DV → Option (DV × List DV)} (slot : Slot "list" name id) (hty : typeOf (.builtin id) = pure (.type "method_descriptor")) (hm : MtR X id r) (h : BM X.K r f) (ha : SA X (e :: es) ms)
    (hN : X.N[i]? = some x := by rfl) (hv : Vis X.env.scope x := by first | exact Or.inl rfl | exact Or.inr (Or.inl rfl) | exact Or.inr (Or.inr rfl)) (hd : (x == ("__debug__" : Str)) = false := by decide) (hcd : (x == ("__classdict__" : Str)) = false := by decide)
    (hbase : attributeBase (.Name x p) name X.env (eval (.Name x p) X.env) = eval (.Name x p) X.env := by rfl)
    (hfew : ((backTo cpos (starEach (e :: es) X.env)).all (fun x => !x.1) && (backToKw cpos (keywordEach [] X.env)).all (fun x => x.1.isSome)
      && decide ((e :: es).length + ([] : List Keyword).length + (if ([] : List Keyword).isEmpty then 0 else 1) < 30)) = true := by rfl)
    (hline : (apos.endLine == cpos.line) = true := by rfl) (hs : starEach (e :: es) X.env = (false, eval e X.env) :: starEach es X.env := by rfl) (hplain : (backTo cpos (starEach es X.env)).any (·.1) = false := by rfl) :
    SE X (.Call (.Attribute (.Name x p) name apos) (e :: es) [] cpos) (E.mth f i ms) :=
  (pe_bm PySem.F.plainAttrs_list slot hty hm (pv i hN hv hd hcd) ha (hbase := hbase) (hfew := hfew) (hline := hline) (hs := hs) (hplain := hplain)).imp fun σ H Q q => mth_imp h q
theorem se_mth0 (i : Nat) {apos cpos : Pos} {name : Str} {id : String} {r : V → List V → Hp → VK → Prop} {f : List DV → List DV → Option (DV × List DV)} (slot : Slot "list" name id) (hty : typeOf (.builtin id) = pure (.type "method_descriptor")) (hm : MtR X id r) (h : BM X.K r f)
    (hN : X.N[i]? = some x := by rfl) (hv : Vis X.env.scope x := by first | exact Or.inl rfl | exact Or.inr (Or.inl rfl) | exact Or.inr (Or.inr rfl)) (hd : (x == ("__debug__" : Str)) = false := by decide) (hcd : (x == ("__classdict__" : Str)) = false := by decide)
    (hbase : attributeBase (.Name x p) name X.env (eval (.Name x p) X.env) = eval (.Name x p) X.env := by rfl) (hline : (apos.endLine == cpos.line) = true := by rfl) :
    SE X (.Call (.Attribute (.Name x p) name apos) [] [] cpos) (E.mth f i A.nil) :=
  (pe_bm0 PySem.F.plainAttrs_list slot hty hm (pv i hN hv hd hcd) (hbase := hbase) (hline := hline)).imp fun σ H Q q => mth0_imp h q
end
end Sy
namespace Sy
open PySem PySem.Spec PyProof.Rows L2
section
variable {P : Program} {w : World} {K : PySem.W.Frag} {mg : Str → Option Value} {base : Heap}
theorem ok_stuck {CX : CXT} {lv : Nat} {f : Addr} {fd : FuncData} {ps : List Str} {n : Nat} : FnOk P w K mg base CX lv f fd ps (spF K n fun _ => .stuck) :=
  ⟨fun vs H Q E h => by obtain ⟨_, _, _, _, _, h⟩ := h; exact h.elim, fun A outer s H args us vs Q E hr he hb hv h => by obtain ⟨_, _, _, _, _, h⟩ := h; exact h.elim⟩
def addI : DV → DV → Option MV
  | .int a, .int b => it (a + b)
  | _, _ => none
theorem b_addI : B2 K (ipI fun i j => i + j) addI := fun P H x y d e m Q h al rx ry q => by
  unfold addI at h
  split at h
  · cases h
    exact ⟨_, _, rw_int rx, rw_int ry, new_int q⟩
  · cases h
end
/-! ### a, b = x, y -/
def S.par (i j : Nat) (ms : AM) : SM := fun sl => (ms sl).s fun os sl => match settle os sl with
  | some ([d, e], sl) => if i < sl.length ∧ j < sl.length then .nx ((sl.set i (some (.val d))).set j (some (.val e))) else .stuck
  | _ => .stuck
theorem ss_par {X : Cx} {as : List Nat} {i j : Nat} {x y : Str} {a b : Expr} {px py pt pos : Pos} {kt k2 : Nat} {pt2 : Pos} {ms : AM} (hc : X.calm = true) (hN : X.N.Nodup) (ha : SA X [a, b] ms) (hi : X.N[i]? = some x := by rfl) (hj : X.N[j]? = some y := by rfl) (hij : i ≠ j := by decide)
    (hx : X.env.scope.names.lookup x = some .local := by rfl) (hy : X.env.scope.names.lookup y = some .local := by rfl) (hai : i ∈ as := by decide) (haj : j ∈ as := by decide)
    (hw : swappedStores [.Tuple [.Name x px, .Name y py] kt pt] (.Tuple [a, b] k2 pt2) X.env = pure (some [x, y]) := by rfl)
    (hs : swapsWithSole [.Tuple [.Name x px, .Name y py] kt pt] (.Tuple [a, b] k2 pt2) pos.line X.env = pure false := by rfl) :
    SS X (.Assign [.Tuple [.Name x px, .Name y py] kt pt] (.Tuple [a, b] k2 pt2) pos) (S.par i j ms) as := fun Wx tk => (ps_par hc hN hi hj hij hx hy ha hw hs).imp fun D σ H q => by
  obtain ⟨O, W, sl, x, q⟩ := q
  obtain ⟨os, s1, e1, q⟩ := post_ok q
  refine tAs_mk x e1 fun W1 F vs H1 t1 x1 r1 n1 => ?_
  cases es : settle os s1 with
  | none => rw [es] at q; exact q.elim
  | some pr =>
    obtain ⟨ds, s2⟩ := pr
    rw [es] at q
    obtain ⟨W2, x2, rd, sh⟩ := settle_ok os s1 s2 ds W1 F vs es x1 r1 n1
    match ds, rd, q with
    | [d, e], .cons r1 (.cons r2 .nil), q =>
      simp only at q
      by_cases hl : i < s2.length ∧ j < s2.length
      · rw [if_pos hl] at q
        have y1 := x2.setv r1 hl.1
        have y2 := y1.setv (r2.up (gs_same shr_set)) (by simpa using hl.2)
        exact ⟨_, _, rfl, q _ _ H1 (tr_shr (tr_shr (tr_shr t1.noF sh) shr_set) shr_set) y2 ((Agr.set hai).trans (Agr.set haj))⟩
      · rw [if_neg hl] at q; exact q.elim
/-! ### a law's end -/
theorem rds_ints {K : PySem.W.Frag} {G : Hp} : ∀ ns : List Int, RDs K G (ns.map DV.int) (ns.map V.int)
  | [] => .nil
  | n :: ns => .cons (.int n) (rds_ints ns)
theorem law_end {K : PySem.W.Frag} {H : Hp} {a : Addr} {ns : List Int} {g : FM} {E : XK} (hS : SqL K H a (ns.map V.int)) (h : ∃ ms, g [.val (.scr (ns.map .int))] = .ok (.val (.bl true)) ms) : spF K 1 g [.ref a] H (fun v _ => v = .bl true) E := by
  obtain ⟨ms, h⟩ := h
  have s : Same H (gr nof noF H) := fun b o e => hid_some.mpr ⟨fun h => h.elim id fun ⟨i, h⟩ => by simp [noF] at h, e⟩
  refine ⟨rfl, nof, noF, [.val (.scr (ns.map .int))], ⟨fun i m e => ?_, fun _ _ => rfl, fun i j a h => by simp [noF] at h, fun i a h => by simp [noF] at h, fun a h => h.elim, rfl⟩, ?_⟩
  · cases i with
    | zero =>
      simp at e
      subst e
      exact ⟨_, rfl, .val (.scr (s.seq hS) (rds_ints ns))⟩
    | succ i => simp at e
  · rw [h]
    intro W' f v H' t x r n
    cases r with
    | val r => cases r; rfl
end Sy
namespace Sy
open PySem PySem.Spec PyProof.Rows L2
/-! ### running by simp: first-order equations -/
def SRes.seq (r : SRes) (b : SM) : SRes := match r with
  | .nx sl => b sl
  | r => r
@[simp] theorem SRes.seq_nx {sl : Sl} {b : SM} : (SRes.nx sl).seq b = b sl := rfl
@[simp] theorem SRes.seq_ret {m : MV} {sl : Sl} {b : SM} : (SRes.ret m sl).seq b = .ret m sl := rfl
@[simp] theorem SRes.seq_bk {sl : Sl} {b : SM} : (SRes.bk sl).seq b = .bk sl := rfl
@[simp] theorem SRes.seq_ct {sl : Sl} {b : SM} : (SRes.ct sl).seq b = .ct sl := rfl
@[simp] theorem SRes.seq_stuck {b : SM} : (SRes.stuck).seq b = .stuck := rfl
@[simp] theorem S.seq_eq {a b : SM} {sl : Sl} : S.seq a b sl = (a sl).seq b := by
  unfold S.seq SRes.seq
  cases a sl <;> rfl
@[simp] theorem S.nil_eq {sl : Sl} : S.nil sl = .nx sl := rfl
@[simp] theorem S.pass_eq {sl : Sl} : S.pass sl = .nx sl := rfl
@[simp] theorem S.brk_eq {sl : Sl} : S.brk sl = .bk sl := rfl
@[simp] theorem S.cnt_eq {sl : Sl} : S.cnt sl = .ct sl := rfl
@[simp] theorem S.retN_eq {sl : Sl} : S.retN sl = .ret (.val .non) sl := rfl
@[simp] theorem Op.view_tmp {m : MV} {sl : Sl} : (Op.tmp m).view sl = some m.view := rfl
@[simp] theorem Op.view_pl {i : Nat} {sl : Sl} : (Op.pl i).view sl = sl[i]?.join.map MV.view := rfl
@[simp] theorem Op.cont_tmp {m : MV} {sl : Sl} : (Op.tmp m).cont sl = some m := rfl
@[simp] theorem Op.cont_pl {i : Nat} {sl : Sl} : (Op.pl i).cont sl = sl[i]?.join := rfl
@[simp] theorem MV.view_val {d : DV} : (MV.val d).view = d := rfl
@[simp] theorem MV.view_lst {xs : List DV} : (MV.lst xs).view = .lst xs := rfl
@[simp] theorem E.c_eq {d : DV} {sl : Sl} : E.c d sl = .ok (.tmp (.val d)) sl := rfl
def varG (i : Nat) (sl : Sl) : Option (Option MV) → Res Op
  | some (some _) => .ok (.pl i) sl
  | _ => .stuck
@[simp] theorem varG_s {i : Nat} {sl : Sl} {m : MV} : varG i sl (some (some m)) = .ok (.pl i) sl := rfl
@[simp] theorem E.var_eq {i : Nat} {sl : Sl} : E.var i sl = varG i sl sl[i]? := by
  unfold E.var varG
  first | done | (rcases sl[i]? with _ | _ | _ <;> rfl)
/-- one value -/
def on1 (f : DV → Option MV) (o : Option DV) (sl : Sl) : Res Op := match o with
  | some d => fin (f d) sl
  | none => .stuck
@[simp] theorem on1_s {f : DV → Option MV} {d : DV} {sl : Sl} : on1 f (some d) sl = fin (f d) sl := rfl
def on2 (f : DV → DV → Option MV) (o p : Option DV) (sl : Sl) : Res Op := match o, p with
  | some d, some e => fin (f d e) sl
  | _, _ => .stuck
@[simp] theorem on2_s {f : DV → DV → Option MV} {d e : DV} {sl : Sl} : on2 f (some d) (some e) sl = fin (f d e) sl := rfl
def Res.un (r : Res Op) (f : DV → Option MV) : Res Op := r.bind fun o sl => on1 f (o.view sl) sl
@[simp] theorem Res.un_ok {o : Op} {sl : Sl} {f : DV → Option MV} : (Res.ok o sl).un f = on1 f (o.view sl) sl := rfl
@[simp] theorem E.un_eq {f : DV → Option MV} {a : EM} {sl : Sl} : E.un f a sl = (a sl).un f := rfl
def Res.bin1 (r : Res Op) (f : DV → DV → Option MV) (b : EM) : Res Op := r.bind fun o sl => (b sl).bind fun p sl => on2 f (o.view sl) (p.view sl) sl
def Res.bin2 (r : Res Op) (f : DV → DV → Option MV) (o : Op) : Res Op := r.bind fun p sl => on2 f (o.view sl) (p.view sl) sl
@[simp] theorem Res.bin1_ok {o : Op} {sl : Sl} {f : DV → DV → Option MV} {b : EM} : (Res.ok o sl).bin1 f b = (b sl).bin2 f o := rfl
@[simp] theorem Res.bin2_ok {o p : Op} {sl : Sl} {f : DV → DV → Option MV} : (Res.ok p sl).bin2 f o = on2 f (o.view sl) (p.view sl) sl := rfl
@[simp] theorem E.bin_eq {f : DV → DV → Option MV} {a b : EM} {sl : Sl} : E.bin f a b sl = (a sl).bin1 f b := by
  unfold E.bin Res.bin1 on2
  all_goals rfl
@[simp] theorem A.nil_eq {sl : Sl} : A.nil sl = .ok [] sl := rfl
def Res.arg1 (r : Res Op) (as : AM) : Res (List Op) := r.bind fun o sl => (as sl).bind fun os sl => .ok (o :: os) sl
def Res.arg2 (r : Res (List Op)) (o : Op) : Res (List Op) := r.bind fun os sl => .ok (o :: os) sl
@[simp] theorem Res.arg1_ok {o : Op} {sl : Sl} {as : AM} : (Res.ok o sl).arg1 as = (as sl).arg2 o := rfl
@[simp] theorem Res.arg2_ok {o : Op} {os : List Op} {sl : Sl} : (Res.ok os sl).arg2 o = .ok (o :: os) sl := rfl
@[simp] theorem A.cons_eq {a : EM} {as : AM} {sl : Sl} : A.cons a as sl = (a sl).arg1 as := rfl
def onL (f : List DV → Option MV) (o : Option (List DV)) (sl : Sl) : Res Op := match o with
  | some d => fin (f d) sl
  | none => .stuck
@[simp] theorem onL_s {f : List DV → Option MV} {d : List DV} {sl : Sl} : onL f (some d) sl = fin (f d) sl := rfl
def consO (o : Option DV) (os : Option (List DV)) : Option (List DV) := match o, os with
  | some d, some ds => some (d :: ds)
  | _, _ => none
@[simp] theorem consO_s {d : DV} {ds : List DV} : consO (some d) (some ds) = some (d :: ds) := rfl
@[simp] theorem views_nil {sl : Sl} : views sl [] = some [] := rfl
@[simp] theorem views_cons {sl : Sl} {o : Op} {os : List Op} : views sl (o :: os) = consO (o.view sl) (views sl os) := by
  unfold consO
  rw [views]
  first | done | (cases o.view sl <;> cases views sl os <;> rfl)
def Res.app (r : Res (List Op)) (f : List DV → Option MV) : Res Op := r.bind fun os sl => onL f (views sl os) sl
@[simp] theorem Res.app_ok {os : List Op} {sl : Sl} {f : List DV → Option MV} : (Res.ok os sl).app f = onL f (views sl os) sl := rfl
@[simp] theorem E.app_eq {f : List DV → Option MV} {as : AM} {sl : Sl} : E.app f as sl = (as sl).app f := by
  unfold E.app Res.app onL
  all_goals rfl
/-! tests -/
def asB (o : Option DV) (sl : Sl) : Res Bool := match o with
  | some (.bl b) => .ok b sl
  | _ => .stuck
@[simp] theorem asB_s {b : Bool} {sl : Sl} : asB (some (.bl b)) sl = .ok b sl := rfl
def Res.tv (r : Res Op) : Res Bool := r.bind fun o sl => asB (o.view sl) sl
@[simp] theorem Res.tv_ok {o : Op} {sl : Sl} : (Res.ok o sl).tv = asB (o.view sl) sl := rfl
@[simp] theorem T.val_eq {m : EM} {sl : Sl} : T.val m sl = (m sl).tv := by
  unfold T.val Res.tv asB
  all_goals rfl
def asT (o : Option Bool) (sl : Sl) : Res Bool := match o with
  | some b => .ok b sl
  | _ => .stuck
@[simp] theorem asT_s {b : Bool} {sl : Sl} : asT (some b) sl = .ok b sl := rfl
def Res.tt (r : Res Op) : Res Bool := r.bind fun o sl => asT ((o.view sl).bind truth) sl
@[simp] theorem Res.tt_ok {o : Op} {sl : Sl} : (Res.ok o sl).tt = asT ((o.view sl).bind truth) sl := rfl
@[simp] theorem T.tru_eq {m : EM} {sl : Sl} : T.tru m sl = (m sl).tt := by
  unfold T.tru Res.tt asT
  all_goals rfl
@[simp] theorem T.yes_eq {sl : Sl} : T.yes sl = .ok true sl := rfl
def Res.and1 (r : Res Bool) (b : TM) : Res Bool := r.bind fun c sl => if c then b sl else .ok false sl
@[simp] theorem Res.and1_t {sl : Sl} {b : TM} : (Res.ok true sl).and1 b = b sl := rfl
@[simp] theorem Res.and1_f {sl : Sl} {b : TM} : (Res.ok false sl).and1 b = .ok false sl := rfl
@[simp] theorem T.and_eq {a b : TM} {sl : Sl} : T.and a b sl = (a sl).and1 b := rfl
def Res.or1 (r : Res Bool) (b : TM) : Res Bool := r.bind fun c sl => if c then .ok true sl else b sl
@[simp] theorem Res.or1_t {sl : Sl} {b : TM} : (Res.ok true sl).or1 b = .ok true sl := rfl
@[simp] theorem Res.or1_f {sl : Sl} {b : TM} : (Res.ok false sl).or1 b = b sl := rfl
@[simp] theorem T.or_eq {a b : TM} {sl : Sl} : T.or a b sl = (a sl).or1 b := rfl
def Res.not1 (r : Res Bool) : Res Bool := r.bind fun c sl => .ok (!c) sl
@[simp] theorem Res.not1_ok {b : Bool} {sl : Sl} : (Res.ok b sl).not1 = .ok (!b) sl := rfl
@[simp] theorem T.not_eq {a : TM} {sl : Sl} : T.not a sl = (a sl).not1 := rfl
@[simp] theorem truth_non : truth .non = some false := rfl
@[simp] theorem truth_bl {b : Bool} : truth (.bl b) = some b := rfl
@[simp] theorem truth_int {i : Int} : truth (.int i) = some (i != 0) := rfl
@[simp] theorem truth_tup {xs : List DV} : truth (.tup xs) = some (!xs.isEmpty) := rfl
@[simp] theorem truth_lst {xs : List DV} : truth (.lst xs) = some (!xs.isEmpty) := rfl
/-! values of tests -/
def hasV (o : Option Bool) (kt kf : Res Op) : Res Op := match o with
  | some true => kt
  | some false => kf
  | none => .stuck
@[simp] theorem hasV_t {kt kf : Res Op} : hasV (some true) kt kf = kt := rfl
@[simp] theorem hasV_f {kt kf : Res Op} : hasV (some false) kt kf = kf := rfl
def Res.eand (r : Res Op) (b : EM) : Res Op := r.bind fun o sl => hasV ((o.view sl).bind truth) (b sl) (.ok o sl)
def Res.eor (r : Res Op) (b : EM) : Res Op := r.bind fun o sl => hasV ((o.view sl).bind truth) (.ok o sl) (b sl)
def Res.enot (r : Res Op) : Res Op := r.bind fun o sl => hasV ((o.view sl).bind truth) (.ok (.tmp (.val (.bl false))) sl) (.ok (.tmp (.val (.bl true))) sl)
@[simp] theorem Res.eand_ok {o : Op} {sl : Sl} {b : EM} : (Res.ok o sl).eand b = hasV ((o.view sl).bind truth) (b sl) (.ok o sl) := rfl
@[simp] theorem Res.eor_ok {o : Op} {sl : Sl} {b : EM} : (Res.ok o sl).eor b = hasV ((o.view sl).bind truth) (.ok o sl) (b sl) := rfl
@[simp] theorem Res.enot_ok {o : Op} {sl : Sl} : (Res.ok o sl).enot = hasV ((o.view sl).bind truth) (.ok (.tmp (.val (.bl false))) sl) (.ok (.tmp (.val (.bl true))) sl) := rfl
@[simp] theorem E.and_eq {a b : EM} {sl : Sl} : E.and a b sl = (a sl).eand b := by
  unfold E.and Res.eand hasV
  all_goals rfl
@[simp] theorem E.or_eq {a b : EM} {sl : Sl} : E.or a b sl = (a sl).eor b := by
  unfold E.or Res.eor hasV
  all_goals rfl
@[simp] theorem E.not_eq {a : EM} {sl : Sl} : E.not a sl = (a sl).enot := by
  unfold E.not Res.enot hasV
  all_goals rfl
def Res.eife (r : Res Bool) (a b : EM) : Res Op := r.bind fun k sl => if k then a sl else b sl
@[simp] theorem Res.eife_ok {k : Bool} {sl : Sl} {a b : EM} : (Res.ok k sl).eife a b = if k then a sl else b sl := rfl
@[simp] theorem E.ife_eq {c : TM} {a b : EM} {sl : Sl} : E.ife c a b sl = (c sl).eife a b := rfl
/-! slices -/
@[simp] theorem OP.none_eq {sl : Sl} : OP.none sl = .ok Option.none sl := rfl
def asI (o : Option DV) (sl : Sl) : Res (Option Int) := match o with
  | Option.some (.int i) => .ok (Option.some i) sl
  | _ => .stuck
@[simp] theorem asI_s {i : Int} {sl : Sl} : asI (some (.int i)) sl = .ok (some i) sl := rfl
def Res.osm (r : Res Op) : Res (Option Int) := r.bind fun o sl => asI (o.view sl) sl
@[simp] theorem Res.osm_ok {o : Op} {sl : Sl} : (Res.ok o sl).osm = asI (o.view sl) sl := rfl
@[simp] theorem OP.some_eq {m : EM} {sl : Sl} : OP.some m sl = (m sl).osm := by
  unfold OP.some Res.osm asI
  all_goals rfl
def onS (f : DV → Option Int → Option Int → Option MV) (o : Option DV) (lo hi : Option Int) (sl : Sl) : Res Op := match o with
  | some d => fin (f d lo hi) sl
  | none => .stuck
@[simp] theorem onS_s {f : DV → Option Int → Option Int → Option MV} {d : DV} {lo hi : Option Int} {sl : Sl} : onS f (some d) lo hi sl = fin (f d lo hi) sl := rfl
def Res.sl1 (r : Res Op) (f : DV → Option Int → Option Int → Option MV) (l h : OM) : Res Op := r.bind fun o sl => (l sl).bind fun lo sl => (h sl).bind fun hi sl => onS f (o.view sl) lo hi sl
def Res.sl2 (r : Res (Option Int)) (f : DV → Option Int → Option Int → Option MV) (o : Op) (h : OM) : Res Op := r.bind fun lo sl => (h sl).bind fun hi sl => onS f (o.view sl) lo hi sl
def Res.sl3 (r : Res (Option Int)) (f : DV → Option Int → Option Int → Option MV) (o : Op) (lo : Option Int) : Res Op := r.bind fun hi sl => onS f (o.view sl) lo hi sl
@[simp] theorem Res.sl1_ok {o : Op} {sl : Sl} {f : DV → Option Int → Option Int → Option MV} {l h : OM} : (Res.ok o sl).sl1 f l h = (l sl).sl2 f o h := rfl
@[simp] theorem Res.sl2_ok {o : Op} {sl : Sl} {f : DV → Option Int → Option Int → Option MV} {lo : Option Int} {h : OM} : (Res.ok lo sl).sl2 f o h = (h sl).sl3 f o lo := rfl
@[simp] theorem Res.sl3_ok {o : Op} {sl : Sl} {f : DV → Option Int → Option Int → Option MV} {lo hi : Option Int} : (Res.ok hi sl).sl3 f o lo = onS f (o.view sl) lo hi sl := rfl
@[simp] theorem E.slc_eq {f : DV → Option Int → Option Int → Option MV} {a : EM} {l h : OM} {sl : Sl} : E.slc f a l h sl = (a sl).sl1 f l h := by
  unfold E.slc Res.sl1 onS
  all_goals rfl
/-! displays -/
def consP (d : DV) (p : Option (List DV × Sl)) : Option (List DV × Sl) := p.map fun p => (d :: p.1, p.2)
@[simp] theorem consP_s {d : DV} {ds : List DV} {sl : Sl} : consP d (some (ds, sl)) = some (d :: ds, sl) := rfl
@[simp] theorem settle_nil {sl : Sl} : settle [] sl = some ([], sl) := rfl
@[simp] theorem settle_tmp {m : MV} {os : List Op} {sl : Sl} : settle (.tmp m :: os) sl = consP m.view (settle os sl) := rfl
def settleG (i : Nat) (os : List Op) (sl : Sl) : Option (Option MV) → Option (List DV × Sl)
  | some (some m) => consP m.view (settle os (sl.set i (some (.val m.view))))
  | _ => none
@[simp] theorem settleG_s {i : Nat} {os : List Op} {sl : Sl} {m : MV} : settleG i os sl (some (some m)) = consP m.view (settle os (sl.set i (some (.val m.view)))) := rfl
@[simp] theorem settle_pl {i : Nat} {os : List Op} {sl : Sl} : settle (.pl i :: os) sl = settleG i os sl sl[i]? := by
  unfold settleG
  rw [settle]
  first | done | (rcases sl[i]? with _ | _ | _ <;> rfl)
def onD (mk : List DV → MV) : Option (List DV × Sl) → Res Op
  | some (ds, sl) => if ds.length ≤ 1000 then .ok (.tmp (mk ds)) sl else .stuck
  | none => .stuck
@[simp] theorem onD_s {mk : List DV → MV} {ds : List DV} {sl : Sl} : onD mk (some (ds, sl)) = if ds.length ≤ 1000 then .ok (.tmp (mk ds)) sl else .stuck := rfl
def Res.disp (r : Res (List Op)) (mk : List DV → MV) : Res Op := r.bind fun os sl => onD mk (settle os sl)
@[simp] theorem Res.disp_ok {os : List Op} {sl : Sl} {mk : List DV → MV} : (Res.ok os sl).disp mk = onD mk (settle os sl) := rfl
@[simp] theorem E.disp_eq {mk : List DV → MV} {as : AM} {sl : Sl} : E.disp mk as sl = (as sl).disp mk := by
  unfold E.disp Res.disp onD
  all_goals rfl
/-! statements -/
def Res.sex (r : Res Op) : SRes := r.s fun _ sl => .nx sl
@[simp] theorem Res.sex_ok {o : Op} {sl : Sl} : (Res.ok o sl).sex = .nx sl := rfl
@[simp] theorem S.expr_eq {m : EM} {sl : Sl} : S.expr m sl = (m sl).sex := rfl
def settle1G (i : Nat) (sl : Sl) : Option (Option MV) → Option (DV × Sl)
  | some (some m) => some (m.view, sl.set i (some (.val m.view)))
  | _ => none
@[simp] theorem settle1G_s {i : Nat} {sl : Sl} {m : MV} : settle1G i sl (some (some m)) = some (m.view, sl.set i (some (.val m.view))) := rfl
@[simp] theorem settle1_tmp {m : MV} {sl : Sl} : settle1 (.tmp m) sl = some (m.view, sl) := rfl
@[simp] theorem settle1_pl {i : Nat} {sl : Sl} : settle1 (.pl i) sl = settle1G i sl sl[i]? := by
  unfold settle1G settle1
  simp only
  first | done | (rcases sl[i]? with _ | _ | _ <;> rfl)
def putN (i : Nat) (m : MV) (sl : Sl) : SRes := if i < sl.length then .nx (sl.set i (some m)) else .stuck
@[simp] theorem putN_eq {i : Nat} {m : MV} {sl : Sl} : putN i m sl = if i < sl.length then .nx (sl.set i (some m)) else .stuck := rfl
def asgP (i : Nat) : Option (DV × Sl) → SRes
  | some (d, sl) => putN i (.val d) sl
  | none => .stuck
@[simp] theorem asgP_s {i : Nat} {d : DV} {sl : Sl} : asgP i (some (d, sl)) = putN i (.val d) sl := rfl
def asgO (i : Nat) (o : Op) (sl : Sl) : SRes := match o with
  | .tmp m => putN i m sl
  | .pl j => asgP i (settle1 (.pl j) sl)
@[simp] theorem asgO_tmp {i : Nat} {m : MV} {sl : Sl} : asgO i (.tmp m) sl = putN i m sl := rfl
@[simp] theorem asgO_pl {i j : Nat} {sl : Sl} : asgO i (.pl j) sl = asgP i (settle1 (.pl j) sl) := rfl
def Res.sasg (r : Res Op) (i : Nat) : SRes := r.s fun o sl => asgO i o sl
@[simp] theorem Res.sasg_ok {o : Op} {sl : Sl} {i : Nat} : (Res.ok o sl).sasg i = asgO i o sl := rfl
@[simp] theorem S.asg_eq {i : Nat} {m : EM} {sl : Sl} : S.asg i m sl = (m sl).sasg i := by
  unfold S.asg Res.sasg asgO asgP putN
  first | done | (cases m sl <;> rfl)
def retP : Option (DV × Sl) → SRes
  | some (d, sl) => .ret (.val d) sl
  | none => .stuck
@[simp] theorem retP_s {d : DV} {sl : Sl} : retP (some (d, sl)) = .ret (.val d) sl := rfl
def retG (i : Nat) (sl : Sl) : Option (Option MV) → SRes
  | some (some m) => .ret m (sl.set i none)
  | _ => .stuck
@[simp] theorem retG_s {i : Nat} {sl : Sl} {m : MV} : retG i sl (some (some m)) = .ret m (sl.set i none) := rfl
def retO (np : Nat) (o : Op) (sl : Sl) : SRes := match o with
  | .tmp m => .ret m sl
  | .pl i => if i < np then retP (settle1 (.pl i) sl) else retG i sl sl[i]?
@[simp] theorem retO_tmp {np : Nat} {m : MV} {sl : Sl} : retO np (.tmp m) sl = .ret m sl := rfl
@[simp] theorem retO_pl {np i : Nat} {sl : Sl} : retO np (.pl i) sl = if i < np then retP (settle1 (.pl i) sl) else retG i sl sl[i]? := rfl
def Res.sret (r : Res Op) (np : Nat) : SRes := r.s fun o sl => retO np o sl
@[simp] theorem Res.sret_ok {o : Op} {sl : Sl} {np : Nat} : (Res.ok o sl).sret np = retO np o sl := rfl
@[simp] theorem S.ret_eq {np : Nat} {m : EM} {sl : Sl} : S.ret np m sl = (m sl).sret np := by
  unfold S.ret Res.sret retO retP retG
  all_goals rfl
def Res.sif (r : Res Bool) (a b : SM) : SRes := r.s fun k sl => if k then a sl else b sl
@[simp] theorem Res.sif_ok {k : Bool} {sl : Sl} {a b : SM} : (Res.ok k sl).sif a b = if k then a sl else b sl := rfl
@[simp] theorem S.ife_eq {c : TM} {a b : SM} {sl : Sl} : S.ife c a b sl = (c sl).sif a b := rfl
def augF (i : Nat) (sl : Sl) : Option MV → SRes
  | some m => putN i m sl
  | none => .stuck
@[simp] theorem augF_s {i : Nat} {sl : Sl} {m : MV} : augF i sl (some m) = putN i m sl := rfl
def augO (i : Nat) (f : DV → DV → Option MV) (sl : Sl) : Option (Option MV) → Option DV → SRes
  | some (some (.val d)), some e => augF i sl (f d e)
  | _, _ => .stuck
@[simp] theorem augO_s {i : Nat} {f : DV → DV → Option MV} {sl : Sl} {d e : DV} : augO i f sl (some (some (.val d))) (some e) = augF i sl (f d e) := rfl
def Res.aug (r : Res Op) (i : Nat) (f : DV → DV → Option MV) : SRes := r.s fun o sl => augO i f sl sl[i]? (o.view sl)
@[simp] theorem Res.aug_ok {o : Op} {sl : Sl} {i : Nat} {f : DV → DV → Option MV} : (Res.ok o sl).aug i f = augO i f sl sl[i]? (o.view sl) := rfl
def augG (i : Nat) (f : DV → DV → Option MV) (m : EM) (sl : Sl) : Option (Option MV) → SRes
  | some (some (.val _)) => (m sl).aug i f
  | _ => .stuck
@[simp] theorem augG_s {i : Nat} {f : DV → DV → Option MV} {m : EM} {sl : Sl} {d : DV} : augG i f m sl (some (some (.val d))) = (m sl).aug i f := rfl
@[simp] theorem S.aug_eq {i : Nat} {f : DV → DV → Option MV} {m : EM} {sl : Sl} : S.aug i f m sl = augG i f m sl sl[i]? := by
  unfold S.aug augG Res.aug augO augF putN
  rcases sl[i]? with _ | _ | d | d | _ | _ | _
  all_goals first
    | rfl
    | (simp only
       cases m sl with
       | ok o sl =>
         simp only [Res.s_ok]
         rcases sl[i]? with _ | _ | d | d | _ | _ | _
         all_goals first
           | rfl
           | (cases o.view sl <;> rfl)
       | exc _ _ => rfl
       | stuck => rfl)
/-! patterns -/
@[simp] theorem bindP_nm {i : Nat} {d : DV} {sl : Sl} : bindP (.nm i) d sl = if i < sl.length then some (sl.set i (some (.val d))) else none := rfl
@[simp] theorem bindP_tp {ps : List Pat} {ds : List DV} {sl : Sl} : bindP (.tp ps) (.tup ds) sl = bindPs ps ds sl := rfl
@[simp] theorem bindPs_nil {sl : Sl} : bindPs [] [] sl = some sl := rfl
def bindN (ps : List Pat) (ds : List DV) : Option Sl → Option Sl
  | some sl => bindPs ps ds sl
  | none => none
@[simp] theorem bindN_s {ps : List Pat} {ds : List DV} {sl : Sl} : bindN ps ds (some sl) = bindPs ps ds sl := rfl
@[simp] theorem bindPs_cons {p : Pat} {ps : List Pat} {d : DV} {ds : List DV} {sl : Sl} : bindPs (p :: ps) (d :: ds) sl = bindN ps ds (bindP p d sl) := by
  unfold bindN
  rw [bindPs]
  first | done | (split <;> simp_all)
/-! what is walked -/
def lstO : Option (DV × Sl) → Res (List DV)
  | some (.lst ds, sl) => .ok ds sl
  | some (.scr ds, sl) => .ok ds sl
  | _ => .stuck
@[simp] theorem lstO_l {ds : List DV} {sl : Sl} : lstO (some (.lst ds, sl)) = .ok ds sl := rfl
@[simp] theorem lstO_s {ds : List DV} {sl : Sl} : lstO (some (.scr ds, sl)) = .ok ds sl := rfl
def Res.ilst (r : Res Op) : Res (List DV) := r.bind fun o sl => lstO (settle1 o sl)
@[simp] theorem Res.ilst_ok {o : Op} {sl : Sl} : (Res.ok o sl).ilst = lstO (settle1 o sl) := rfl
@[simp] theorem I.lst_eq {m : EM} {sl : Sl} : I.lst m sl = (m sl).ilst := by
  unfold I.lst Res.ilst lstO
  all_goals rfl
def tupO : Option (DV × Sl) → Res (List DV)
  | some (.tup ds, sl) => .ok ds sl
  | _ => .stuck
@[simp] theorem tupO_s {ds : List DV} {sl : Sl} : tupO (some (.tup ds, sl)) = .ok ds sl := rfl
def Res.itup (r : Res Op) : Res (List DV) := r.bind fun o sl => tupO (settle1 o sl)
@[simp] theorem Res.itup_ok {o : Op} {sl : Sl} : (Res.ok o sl).itup = tupO (settle1 o sl) := rfl
@[simp] theorem I.tup_eq {m : EM} {sl : Sl} : I.tup m sl = (m sl).itup := by
  unfold I.tup Res.itup tupO
  all_goals rfl
def strO : Option (DV × Sl) → Res (List DV)
  | some (.str x, sl) => .ok (chars x) sl
  | _ => .stuck
@[simp] theorem strO_s {x : Str} {sl : Sl} : strO (some (.str x, sl)) = .ok (chars x) sl := rfl
def Res.istr (r : Res Op) : Res (List DV) := r.bind fun o sl => strO (settle1 o sl)
@[simp] theorem Res.istr_ok {o : Op} {sl : Sl} : (Res.ok o sl).istr = strO (settle1 o sl) := rfl
@[simp] theorem I.str_eq {m : EM} {sl : Sl} : I.str m sl = (m sl).istr := by
  unfold I.str Res.istr strO
  all_goals rfl
theorem small62_of {n : Int} (h0 : 0 ≤ n) (h : n ≤ 4000000000) : small62 n := ⟨by omega, by omega⟩
@[simp] theorem small62_eq {n : Int} (h0 : 0 ≤ n) (h : n ≤ 4000000000) : small62 n = True := eq_true (small62_of h0 h)
theorem small62_iff {n : Int} : small62 n ↔ (-(2 ^ 62) ≤ n ∧ n < 2 ^ 62) := Iff.rfl
def ups (a n : Int) : List DV := (List.range n.toNat).map fun (i : Nat) => .int (a + i)
noncomputable def rngO (sl : Sl) : Option (List DV) → Res (List DV)
  | some [.int n] => if small62 n then .ok (ups 0 n) sl else .stuck
  | _ => .stuck
@[simp] theorem rngO_s {n : Int} {sl : Sl} : rngO sl (some [.int n]) = if small62 n then .ok (ups 0 n) sl else .stuck := rfl
noncomputable def Res.rng1 (r : Res (List Op)) : Res (List DV) := r.bind fun os sl => rngO sl (views sl os)
@[simp] theorem Res.rng1_ok {os : List Op} {sl : Sl} : (Res.ok os sl).rng1 = rngO sl (views sl os) := rfl
@[simp] theorem I.rng1_eq {as : AM} {sl : Sl} : I.rng1 as sl = (as sl).rng1 := by
  unfold I.rng1 Res.rng1 rngO ups
  simp only [Int.zero_add]
  all_goals rfl
noncomputable def rngO2 (sl : Sl) : Option (List DV) → Res (List DV)
  | some [.int a, .int b] => if small62 a ∧ small62 b then .ok (ups a (b - a)) sl else .stuck
  | _ => .stuck
@[simp] theorem rngO2_s {a b : Int} {sl : Sl} : rngO2 sl (some [.int a, .int b]) = if small62 a ∧ small62 b then .ok (ups a (b - a)) sl else .stuck := rfl
noncomputable def Res.rng2 (r : Res (List Op)) : Res (List DV) := r.bind fun os sl => rngO2 sl (views sl os)
@[simp] theorem Res.rng2_ok {os : List Op} {sl : Sl} : (Res.ok os sl).rng2 = rngO2 sl (views sl os) := rfl
@[simp] theorem I.rng2_eq {as : AM} {sl : Sl} : I.rng2 as sl = (as sl).rng2 := by
  unfold I.rng2 Res.rng2 rngO2 ups
  all_goals rfl
def enumO : Option (List DV × Sl) → Res (List DV)
  | some ([.lst ds], sl) => .ok (numbered ds) sl
  | _ => .stuck
@[simp] theorem enumO_s {ds : List DV} {sl : Sl} : enumO (some ([.lst ds], sl)) = .ok (numbered ds) sl := rfl
def Res.enum (r : Res (List Op)) : Res (List DV) := r.bind fun os sl => enumO (settle os sl)
@[simp] theorem Res.enum_ok {os : List Op} {sl : Sl} : (Res.ok os sl).enum = enumO (settle os sl) := rfl
@[simp] theorem I.enum_eq {as : AM} {sl : Sl} : I.enum as sl = (as sl).enum := by
  unfold I.enum Res.enum enumO
  all_goals rfl
def Res.forr (r : Res (List DV)) (p : Pat) (b : SM) : SRes := r.s fun ds sl => loop p b ds sl
@[simp] theorem Res.forr_ok {ds : List DV} {sl : Sl} {p : Pat} {b : SM} : (Res.ok ds sl).forr p b = loop p b ds sl := rfl
@[simp] theorem S.forr_eq {it : IM} {p : Pat} {b : SM} {sl : Sl} : S.forr it p b sl = (it sl).forr p b := rfl
/-! calls -/
def consM (o : Option MV) (os : Option (List MV)) : Option (List MV) := match o, os with
  | some d, some ds => some (d :: ds)
  | _, _ => none
@[simp] theorem consM_s {d : MV} {ds : List MV} : consM (some d) (some ds) = some (d :: ds) := rfl
@[simp] theorem conts_nil {sl : Sl} : conts sl [] = some [] := rfl
@[simp] theorem conts_cons {sl : Sl} {o : Op} {os : List Op} : conts sl (o :: os) = consM (o.cont sl) (conts sl os) := by
  unfold consM
  rw [conts]
  first | done | (cases o.cont sl <;> cases conts sl os <;> rfl)
def isO : Option (Option MV) → Bool
  | some (some (.lst _)) => true
  | some (some (.obj _ _ _)) => true
  | some (some (.dct _ _)) => true
  | some (some (.bo _ _ _ _ _ _)) => true
  | _ => false
@[simp] theorem isO_d {ks : List (List Key)} {xs : List DV} : isO (some (some (.dct ks xs))) = true := rfl
@[simp] theorem isO_b {C : Addr} {ns : List Str} {xs : List DV} {f : Str} {ks : List (List Key)} {es : List DV} : isO (some (some (.bo C ns xs f ks es))) = true := rfl
@[simp] theorem isO_o {C : Addr} {ns : List Str} {xs : List DV} : isO (some (some (.obj C ns xs))) = true := rfl
def isL : Option (Option MV) → Bool
  | some (some (.lst _)) => true
  | _ => false
@[simp] theorem isL_l {xs : List DV} : isL (some (some (.lst xs))) = true := rfl
@[simp] theorem isLst_eq {sl : Sl} {i : Nat} : isLst sl i = isL sl[i]? := by
  unfold isLst isL
  all_goals rfl
@[simp] theorem isO_l {xs : List DV} : isO (some (some (.lst xs))) = true := rfl
@[simp] theorem isO_v {d : DV} : isO (some (some (.val d))) = false := rfl
@[simp] theorem isO_n : isO (some none) = false := rfl
@[simp] theorem isO_nn : isO none = false := rfl
@[simp] theorem isOwn_eq {sl : Sl} {i : Nat} : isOwn sl i = isO sl[i]? := by
  unfold isOwn isO
  all_goals rfl
@[simp] theorem ownSl_nil {sl : Sl} : ownSl sl [] = [] := rfl
@[simp] theorem ownSl_tmp {sl : Sl} {m : MV} {os : List Op} : ownSl sl (.tmp m :: os) = ownSl sl os := rfl
@[simp] theorem ownSl_pl {sl : Sl} {i : Nat} {os : List Op} : ownSl sl (.pl i :: os) = if isOwn sl i then i :: ownSl sl os else ownSl sl os := rfl
@[simp] theorem giveb_pl {sl0 sl : Sl} {i : Nat} {os : List Op} {m : MV} {ms : List MV} : giveb sl0 (.pl i :: os) (m :: ms) sl = if isOwn sl0 i then giveb sl0 os ms (sl.set i (some m)) else giveb sl0 os ms sl := rfl
@[simp] theorem giveb_tmp {sl0 sl : Sl} {x : MV} {os : List Op} {m : MV} {ms : List MV} : giveb sl0 (.tmp x :: os) (m :: ms) sl = giveb sl0 os ms sl := rfl
@[simp] theorem giveb_nil {sl0 sl : Sl} {ms : List MV} : giveb sl0 [] ms sl = sl := rfl
def backF (n : Nat) (os : List Op) (sl : Sl) : FRes → Res Op
  | .ok r ms' => if ms'.length = n then .ok (.tmp r) (giveb sl os ms' sl) else .stuck
  | _ => .stuck
@[simp] theorem backF_ok {n : Nat} {os : List Op} {sl : Sl} {r : MV} {ms : List MV} : backF n os sl (.ok r ms) = if ms.length = n then .ok (.tmp r) (giveb sl os ms sl) else .stuck := rfl
def callO (n : Nat) (g : FM) (os : List Op) (sl : Sl) : Option (List MV) → Res Op
  | some ms => if os.length = n ∧ (ownSl sl os).Nodup then backF n os sl (g ms) else .stuck
  | none => .stuck
@[simp] theorem callO_s {n : Nat} {g : FM} {os : List Op} {sl : Sl} {ms : List MV} : callO n g os sl (some ms) = if os.length = n ∧ (ownSl sl os).Nodup then backF n os sl (g ms) else .stuck := rfl
def Res.call (r : Res (List Op)) (n : Nat) (g : FM) : Res Op := r.bind fun os sl => callO n g os sl (conts sl os)
@[simp] theorem Res.call_ok {os : List Op} {sl : Sl} {n : Nat} {g : FM} : (Res.ok os sl).call n g = callO n g os sl (conts sl os) := rfl
@[simp] theorem E.call_eq {n : Nat} {g : FM} {as : AM} {sl : Sl} : E.call n g as sl = (as sl).call n g := by
  unfold E.call Res.call callO backF
  all_goals rfl
def mthR (i : Nat) (sl : Sl) : Option (DV × List DV) → Res Op
  | some (r, xs') => .ok (.tmp (.val r)) (sl.set i (some (.lst xs')))
  | none => .stuck
@[simp] theorem mthR_s {i : Nat} {sl : Sl} {r : DV} {xs : List DV} : mthR i sl (some (r, xs)) = .ok (.tmp (.val r)) (sl.set i (some (.lst xs))) := rfl
def mthG (f : List DV → List DV → Option (DV × List DV)) (i : Nat) (ds : List DV) (sl : Sl) : Option (Option MV) → Res Op
  | some (some (.lst xs)) => mthR i sl (f xs ds)
  | _ => .stuck
@[simp] theorem mthG_s {f : List DV → List DV → Option (DV × List DV)} {i : Nat} {ds : List DV} {sl : Sl} {xs : List DV} : mthG f i ds sl (some (some (.lst xs))) = mthR i sl (f xs ds) := rfl
def mthO (f : List DV → List DV → Option (DV × List DV)) (i : Nat) : Option (List DV × Sl) → Res Op
  | some (ds, sl) => mthG f i ds sl sl[i]?
  | none => .stuck
@[simp] theorem mthO_s {f : List DV → List DV → Option (DV × List DV)} {i : Nat} {ds : List DV} {sl : Sl} : mthO f i (some (ds, sl)) = mthG f i ds sl sl[i]? := rfl
def Res.mth (r : Res (List Op)) (f : List DV → List DV → Option (DV × List DV)) (i : Nat) : Res Op := r.bind fun os sl => mthO f i (settle os sl)
@[simp] theorem Res.mth_ok {os : List Op} {sl : Sl} {f : List DV → List DV → Option (DV × List DV)} {i : Nat} : (Res.ok os sl).mth f i = mthO f i (settle os sl) := rfl
@[simp] theorem E.mth_eq {f : List DV → List DV → Option (DV × List DV)} {i : Nat} {as : AM} {sl : Sl} : E.mth f i as sl = if isLst sl i then (as sl).mth f i else .stuck := by
  unfold E.mth Res.mth mthO mthG mthR
  all_goals rfl
def endO (r : MV) : Option (List MV) → FRes
  | some ms => .ok r ms
  | none => .stuck
@[simp] theorem endO_s {r : MV} {ms : List MV} : endO r (some ms) = .ok r ms := rfl
def endX (x : Exc) : Option (List MV) → FRes
  | some ms => .exc x ms
  | none => .stuck
@[simp] theorem endX_s {x : Exc} {ms : List MV} : endX x (some ms) = .exc x ms := rfl
def SRes.fend (r : SRes) (as : List Nat) (ms : List MV) : FRes := match r with
  | .nx sl => endO (.val .non) (outs as sl 0 ms)
  | .ret m sl => endO m (outs as sl 0 ms)
  | .exc x sl => endX x (outs as sl 0 ms)
  | _ => .stuck
@[simp] theorem SRes.fend_nx {sl : Sl} {as : List Nat} {ms : List MV} : (SRes.nx sl).fend as ms = endO (.val .non) (outs as sl 0 ms) := rfl
@[simp] theorem SRes.fend_ret {m : MV} {sl : Sl} {as : List Nat} {ms : List MV} : (SRes.ret m sl).fend as ms = endO m (outs as sl 0 ms) := rfl
@[simp] theorem SRes.fend_exc {x : Exc} {sl : Sl} {as : List Nat} {ms : List MV} : (SRes.exc x sl).fend as ms = endX x (outs as sl 0 ms) := rfl
@[simp] theorem SRes.seq_exc {x : Exc} {sl : Sl} {b : SM} : (SRes.exc x sl).seq b = .exc x sl := rfl
theorem fn_eq {n k : Nat} {as : List Nat} {b : SM} {ms : List MV} (h : ms.length = n) : fn n k as b ms = (b (ms.map some ++ List.replicate k none)).fend as ms := by
  unfold fn SRes.fend endO endX
  rw [if_pos h]
  first | done | (cases b (ms.map some ++ List.replicate k none) <;> rfl)
@[simp] theorem fn_eq1 {k : Nat} {as : List Nat} {b : SM} {x : MV} : fn 1 k as b [x] = (b (some x :: List.replicate k none)).fend as [x] := fn_eq rfl
@[simp] theorem fn_eq2 {k : Nat} {as : List Nat} {b : SM} {x y : MV} : fn 2 k as b [x, y] = (b (some x :: some y :: List.replicate k none)).fend as [x, y] := fn_eq rfl
@[simp] theorem fn_eq3 {k : Nat} {as : List Nat} {b : SM} {x y z : MV} : fn 3 k as b [x, y, z] = (b (some x :: some y :: some z :: List.replicate k none)).fend as [x, y, z] := fn_eq rfl
@[simp] theorem fn_eq4 {k : Nat} {as : List Nat} {b : SM} {x y z u : MV} : fn 4 k as b [x, y, z, u] = (b (some x :: some y :: some z :: some u :: List.replicate k none)).fend as [x, y, z, u] := fn_eq rfl
@[simp] theorem keepv_val {d : DV} : keepv (.val d) = some (.val d) := rfl
@[simp] theorem outs_nil {as : List Nat} {sl : Sl} {j : Nat} : outs as sl j [] = some [] := by
  unfold outs
  all_goals rfl
@[simp] theorem outs_cons {as : List Nat} {sl : Sl} {j : Nat} {m : MV} {ms : List MV} : outs as sl j (m :: ms) = consM (if as.contains j then keepv m else sl[j]?.join) (outs as sl (j + 1) ms) := by
  unfold consM
  rw [outs]
  first | done | (cases (if as.contains j = true then keepv m else sl[j]?.join) <;> cases outs as sl (j + 1) ms <;> rfl)
/-! comprehensions -/
@[simp] theorem wipeS_nil {sl : Sl} : wipeS sl [] = sl := rfl
@[simp] theorem wipeS_cons {sl : Sl} {i : Nat} {ws : List Nat} : wipeS sl (i :: ws) = (wipeS sl ws).set i none := rfl
@[simp] theorem restS_nil {s1 b : Sl} : restS s1 b [] = b := rfl
@[simp] theorem restS_cons {s1 b : Sl} {i : Nat} {ws : List Nat} : restS s1 b (i :: ws) = (restS s1 b ws).set i s1[i]?.join := rfl
def lcE (s1 : Sl) (ws : List Nat) (r : Res (List DV)) : Res Op := r.bind fun acc b => .ok (.tmp (.lst acc)) (restS s1 b ws)
@[simp] theorem lcE_ok {s1 b : Sl} {ws : List Nat} {acc : List DV} : lcE s1 ws (.ok acc b) = .ok (.tmp (.lst acc)) (restS s1 b ws) := rfl
def Res.lc (r : Res (List DV)) (p : Pat) (c : TM) (m : EM) (ws : List Nat) : Res Op := r.bind fun ds s1 => if (ws.all fun i => !isOwn s1 i) = true ∧ ds.length ≤ 10000000 then lcE s1 ws (lcl p c m ws ds [] (wipeS s1 ws)) else .stuck
@[simp] theorem Res.lc_ok {ds : List DV} {s1 : Sl} {p : Pat} {c : TM} {m : EM} {ws : List Nat} : (Res.ok ds s1).lc p c m ws = if (ws.all fun i => !isOwn s1 i) = true ∧ ds.length ≤ 10000000 then lcE s1 ws (lcl p c m ws ds [] (wipeS s1 ws)) else .stuck := rfl
@[simp] theorem E.lc_eq {it : IM} {p : Pat} {c : TM} {m : EM} {ws : List Nat} {sl : Sl} : E.lc it p c m ws sl = (it sl).lc p c m ws := rfl
/-! a, b = x, y -/
def parO (i j : Nat) : Option (List DV × Sl) → SRes
  | some ([d, e], sl) => if i < sl.length ∧ j < sl.length then .nx ((sl.set i (some (.val d))).set j (some (.val e))) else .stuck
  | _ => .stuck
@[simp] theorem parO_s {i j : Nat} {d e : DV} {sl : Sl} : parO i j (some ([d, e], sl)) = if i < sl.length ∧ j < sl.length then .nx ((sl.set i (some (.val d))).set j (some (.val e))) else .stuck := rfl
def Res.par (r : Res (List Op)) (i j : Nat) : SRes := r.s fun os sl => parO i j (settle os sl)
@[simp] theorem Res.par_ok {os : List Op} {sl : Sl} {i j : Nat} : (Res.ok os sl).par i j = parO i j (settle os sl) := rfl
@[simp] theorem S.par_eq {i j : Nat} {ms : AM} {sl : Sl} : S.par i j ms sl = (ms sl).par i j := by
  unfold S.par Res.par parO
  all_goals rfl
/-! the operators -/
theorem le_size {n : Nat} (h : n ≤ 10000000) : n ≤ sizeLine := by rw [sizeLine_eq]; omega
@[simp] theorem bl_eq {b : Bool} : bl b = some (.val (.bl b)) := rfl
@[simp] theorem it_eq {i : Int} : it i = some (.val (.int i)) := rfl
@[simp] theorem addD_int {a b : Int} : addD (.int a) (.int b) = it (a + b) := rfl
@[simp] theorem addD_str {a b : Str} : addD (.str a) (.str b) = if a.length + b.length ≤ sizeLine then some (.val (.str (a ++ b))) else none := rfl
@[simp] theorem addD_lst {a b : List DV} : addD (.lst a) (.lst b) = if a.length + b.length ≤ sizeLine then some (.lst (a ++ b)) else none := rfl
@[simp] theorem addD_tup {a b : List DV} : addD (.tup a) (.tup b) = if a.length + b.length ≤ sizeLine then some (.val (.tup (a ++ b))) else none := rfl
@[simp] theorem subD_int {a b : Int} : subD (.int a) (.int b) = it (a - b) := rfl
theorem smallI_of {a : Int} (h0 : -1000000000000 ≤ a) (h : a ≤ 1000000000000) : smallI a := ⟨by omega, by omega⟩
@[simp] theorem smallI_eq {a : Int} (h0 : -1000000000000 ≤ a) (h : a ≤ 1000000000000) : smallI a = True := eq_true (smallI_of h0 h)
@[simp] theorem mulD_int {a b : Int} : mulD (.int a) (.int b) = if smallI a ∨ smallI b then it (a * b) else none := rfl
@[simp] theorem repTk_eq {k : Int} {n : Nat} (h0 : -1000 ≤ k) (h1 : k ≤ 1000) (h2 : n ≤ 1000) : repTk k n = True := eq_true ⟨h0, h1, h2⟩
@[simp] theorem mulD_tup {xs : List DV} {k : Int} : mulD (.tup xs) (.int k) = if repTk k xs.length then some (.val (.tup (List.replicate k.toNat xs).flatten)) else none := rfl
@[simp] theorem mulD_lst {xs : List DV} {k : Int} : mulD (.lst xs) (.int k) = if repLk k xs.length then some (.lst (List.replicate k.toNat xs).flatten) else none := rfl
@[simp] theorem fdivD_int {a b : Int} : fdivD (.int a) (.int b) = if b ≠ 0 ∧ b.natAbs < 1073741824 then it (a.fdiv b) else none := rfl
@[simp] theorem modD_int {a b : Int} : modD (.int a) (.int b) = if b ≠ 0 then it (a.fmod b) else none := rfl
@[simp] theorem powD_int {a b : Int} : powD (.int a) (.int b) = if 0 ≤ b ∧ b ≤ 1000000 ∧ a.natAbs < 2 ^ 64 then it (a ^ b.toNat) else none := rfl
@[simp] theorem negD_int {a : Int} : negD (.int a) = it (-a) := rfl
@[simp] theorem revD_lst {xs : List DV} : revD (.lst xs) = some (.lst xs.reverse) := rfl
@[simp] theorem ltD_int {a b : Int} : ltD (.int a) (.int b) = bl (decide (a < b)) := rfl
@[simp] theorem leD_int {a b : Int} : leD (.int a) (.int b) = bl (decide (a ≤ b)) := rfl
@[simp] theorem gtD_int {a b : Int} : gtD (.int a) (.int b) = bl (decide (b < a)) := rfl
@[simp] theorem geD_int {a b : Int} : geD (.int a) (.int b) = bl (decide (b ≤ a)) := rfl
theorem intsOf_map : ∀ ns : List Int, intsOf (ns.map DV.int) = some ns
  | [] => rfl
  | n :: ns => by
    show (intsOf (ns.map DV.int)).map (n :: ·) = _
    rw [intsOf_map ns]
    rfl
@[simp] theorem ltD_ints {a b : List Int} : ltD (.tup (a.map DV.int)) (.tup (b.map DV.int)) = bl (HT.lexLt a b) := by
  unfold ltD
  simp only [intsOf_map]
@[simp] theorem isntD_eq {d : DV} : isntD d .non = bl (!isNon d) := rfl
@[simp] theorem isD2_eq {d : DV} : isD2 d .non = bl (isNon d) := rfl
@[simp] theorem isNon_non : isNon .non = true := rfl
@[simp] theorem isNon_int {i : Int} : isNon (.int i) = false := rfl
@[simp] theorem isNon_tup {i : List DV} : isNon (.tup i) = false := rfl
@[simp] theorem isNon_lst {i : List DV} : isNon (.lst i) = false := rfl
@[simp] theorem isNon_str {i : Str} : isNon (.str i) = false := rfl
@[simp] theorem isNon_bl {i : Bool} : isNon (.bl i) = false := rfl
@[simp] theorem ixD_lst {xs : List DV} {i : Int} : ixD (.lst xs) (.int i) = (atI xs i).map .val := rfl
@[simp] theorem ixD_scr {xs : List DV} {i : Int} : ixD (.scr xs) (.int i) = (atI xs i).map .val := rfl
@[simp] theorem ixD_tup {xs : List DV} {i : Int} : ixD (.tup xs) (.int i) = (atI xs i).map .val := rfl
@[simp] theorem ixD_str {x : Str} {i : Int} : ixD (.str x) (.int i) = if x.length ≤ sizeLine then (atI x.cps.toList i).map fun c => .val (.str ⟨#[c]⟩) else none := rfl
@[simp] theorem slD_lst {xs : List DV} {lo hi : Option Int} : slD (.lst xs) lo hi = some (.lst (cutL xs lo hi)) := rfl
@[simp] theorem slD_scr {xs : List DV} {lo hi : Option Int} : slD (.scr xs) lo hi = some (.lst (cutL xs lo hi)) := rfl
@[simp] theorem slD_tup {xs : List DV} {lo hi : Option Int} : slD (.tup xs) lo hi = some (.val (.tup (cutL xs lo hi))) := rfl
@[simp] theorem lenD_lst {xs : List DV} : lenD [.lst xs] = it xs.length := rfl
@[simp] theorem lenD_scr {xs : List DV} : lenD [.scr xs] = it xs.length := rfl
@[simp] theorem lenD_tup {xs : List DV} : lenD [.tup xs] = it xs.length := rfl
@[simp] theorem lenD_str {x : Str} : lenD [.str x] = if x.length ≤ sizeLine then it x.length else none := rfl
@[simp] theorem absD_int {i : Int} : absD [.int i] = it (if i < 0 then -i else i) := rfl
@[simp] theorem intD_int {i : Int} : intD [.int i] = it i := rfl
@[simp] theorem intD_bl {b : Bool} : intD [.bl b] = it (if b then 1 else 0) := rfl
@[simp] theorem listD_lst {xs : List DV} : listD [.lst xs] = some (.lst xs) := rfl
@[simp] theorem listD_scr {xs : List DV} : listD [.scr xs] = some (.lst xs) := rfl
@[simp] theorem listD_tup {xs : List DV} : listD [.tup xs] = some (.lst xs) := rfl
@[simp] theorem tupleD_lst {xs : List DV} : tupleD [.lst xs] = some (.val (.tup xs)) := rfl
@[simp] theorem tupleD_tup {xs : List DV} : tupleD [.tup xs] = some (.val (.tup xs)) := rfl
@[simp] theorem sumD_ints {ns : List Int} : sumD [.lst (ns.map DV.int)] = it ns.sum := by
  unfold sumD
  simp only [intsOf_map]
  all_goals rfl
@[simp] theorem appF_eq {xs : List DV} {d : DV} : appF xs [d] = if xs.length ≤ 10000000 then some (.non, xs ++ [d]) else none := rfl
@[simp] theorem popF_eq {xs : List DV} : popF xs [] = xs.getLast?.map fun d => (d, xs.dropLast) := rfl
@[simp] theorem isiD_eq {d : DV} {t : Ty} : isiD [d, .ty t] = (tyOf d).bind fun a => bl (subTy a t) := rfl
@[simp] theorem addI_int {a b : Int} : addI (.int a) (.int b) = it (a + b) := rfl
/-- `loop p b ds` with an invariant -/
theorem loop_inv {p : Pat} {b : SM} (I : Nat → Sl → Prop) : ∀ (ds : List DV) (k : Nat) (sl : Sl), I k sl → (∀ i d s, ds[i]? = some d → I (k + i) s → ∃ s1 s2, bindP p d s = some s1 ∧ (b s1 = .nx s2 ∨ b s1 = .ct s2) ∧ I (k + i + 1) s2) →
    ∃ s, loop p b ds sl = .nx s ∧ I (k + ds.length) s
  | [], k, sl, h0, hs => ⟨sl, rfl, h0⟩
  | d :: ds, k, sl, h0, hs => by
    obtain ⟨s1, s2, e1, e2, h1⟩ := hs 0 d sl rfl h0
    obtain ⟨s, e, h⟩ := loop_inv I ds (k + 1) s2 h1 fun i d s hd hi => by
      obtain ⟨t1, t2, x, y, z⟩ := hs (i + 1) d s hd (by rw [show k + (i + 1) = k + 1 + i by omega]; exact hi)
      exact ⟨t1, t2, x, y, by rw [show k + 1 + i + 1 = k + (i + 1) + 1 by omega]; exact z⟩
    refine ⟨s, ?_, by rw [List.length_cons, show k + (ds.length + 1) = k + 1 + ds.length by omega]; exact h⟩
    unfold loop
    rw [e1]
    simp only
    rcases e2 with e2 | e2 <;> rw [e2] <;> exact e
theorem forr_inv {it : IM} {p : Pat} {b : SM} {sl s0 : Sl} {ds : List DV} (I : Nat → Sl → Prop) (hi : it sl = .ok ds s0) (h0 : I 0 s0) (hs : ∀ i d s, ds[i]? = some d → I i s → ∃ s1 s2, bindP p d s = some s1 ∧ (b s1 = .nx s2 ∨ b s1 = .ct s2) ∧ I (i + 1) s2) :
    ∃ s, S.forr it p b sl = .nx s ∧ I ds.length s := by
  obtain ⟨s, e, h⟩ := loop_inv I ds 0 s0 h0 fun i d s hd x => by
    rw [Nat.zero_add] at x ⊢
    exact hs i d s hd x
  rw [Nat.zero_add] at h
  exact ⟨s, by unfold S.forr; rw [hi]; exact e, h⟩
/-- the same where a turn may end the whole by a return -/
def SRes.fine (r : SRes) (I : Sl → Prop) (R : MV → Sl → Prop) : Prop := match r with
  | .nx s => I s
  | .ret m s => R m s
  | _ => False
/-- a comprehension with an invariant -/
theorem lcl_inv {p : Pat} {c : TM} {m : EM} {ws : List Nat} (I : Nat → List DV → Sl → Prop) : ∀ (ds : List DV) (k : Nat) (acc : List DV) (b : Sl), I k acc b →
    (∀ i d acc s, ds[i]? = some d → I (k + i) acc s → ∃ s1, bindP p d s = some s1 ∧ ((∃ s2 o s3 e s4, c s1 = .ok true s2 ∧ m s2 = .ok o s3 ∧ settle1 o s3 = some (e, s4) ∧ I (k + i + 1) (acc ++ [e]) (wipeS s4 ws)) ∨ (∃ s2, c s1 = .ok false s2 ∧ I (k + i + 1) acc (wipeS s2 ws)))) →
    ∃ acc' b', lcl p c m ws ds acc b = .ok acc' b' ∧ I (k + ds.length) acc' b'
  | [], k, acc, b, h0, hs => ⟨acc, b, rfl, h0⟩
  | d :: ds, k, acc, b, h0, hs => by
    have go : ∀ acc b, I (k + 1) acc b → ∃ acc' b', lcl p c m ws ds acc b = .ok acc' b' ∧ I (k + 1 + ds.length) acc' b' := fun acc b h => lcl_inv I ds (k + 1) acc b h fun i d acc s hd hi => by
      have := hs (i + 1) d acc s hd (by rw [show k + (i + 1) = k + 1 + i by omega]; exact hi)
      rw [show k + (i + 1) + 1 = k + 1 + i + 1 by omega] at this
      exact this
    rw [List.length_cons, show k + (ds.length + 1) = k + 1 + ds.length by omega]
    obtain ⟨s1, e1, h | h⟩ := hs 0 d acc b rfl h0
    · obtain ⟨s2, o, s3, e, s4, e2, e3, e4, h1⟩ := h
      obtain ⟨acc', b', q, r⟩ := go _ _ h1
      refine ⟨acc', b', ?_, r⟩
      unfold lcl
      rw [e1]
      simp only [e2, Res.bind_ok, if_true, e3, e4]
      exact q
    · obtain ⟨s2, e2, h1⟩ := h
      obtain ⟨acc', b', q, r⟩ := go _ _ h1
      refine ⟨acc', b', ?_, r⟩
      unfold lcl
      rw [e1]
      simp only [e2, Res.bind_ok]
      exact q
/-- a comprehension that only reads: each element by itself -/
theorem lcl_map {p : Pat} {m : EM} {ws : List Nat} {b : Sl} (f : DV → DV) : ∀ (ds : List DV) (acc : List DV),
    (∀ d ∈ ds, ∃ s1 o s3 s4, bindP p d b = some s1 ∧ m s1 = .ok o s3 ∧ settle1 o s3 = some (f d, s4) ∧ wipeS s4 ws = b) → lcl p T.yes m ws ds acc b = .ok (acc ++ ds.map f) b
  | [], acc, h => by simp [lcl]
  | d :: ds, acc, h => by
    obtain ⟨s1, o, s3, s4, e1, e2, e3, e4⟩ := h d (by simp)
    unfold lcl
    rw [e1]
    simp only [T.yes, Res.bind_ok, if_true, e2, e3, e4]
    rw [lcl_map f ds _ fun d hd => h d (by simp [hd])]
    simp
/-- the same, where an element is made anew and the slots stay -/
theorem lcl_read {i : Nat} {m : EM} {b : Sl} (f : DV → DV) (ds acc : List DV) (hi : i < b.length) (hb : b[i]? = some none) (h : ∀ d ∈ ds, ∃ mv, m (b.set i (some (.val d))) = .ok (.tmp mv) (b.set i (some (.val d))) ∧ mv.view = f d) : lcl (.nm i) T.yes m [i] ds acc b = .ok (acc ++ ds.map f) b :=
  lcl_map f ds acc fun d hd => by
    obtain ⟨mv, e, v⟩ := h d hd
    refine ⟨_, _, _, _, by rw [bindP_nm, if_pos hi], e, by rw [settle1_tmp, v], ?_⟩
    simp only [wipeS_cons, wipeS_nil, List.set_set]
    apply List.ext_getElem?
    intro j
    by_cases hj : i = j
    · subst hj
      rw [List.getElem?_set_self (by simpa using hi), hb]
    · rw [List.getElem?_set_ne hj]
theorem lcl_filter {p : Pat} {c : TM} {m : EM} {ws : List Nat} {b : Sl} (g : DV → Bool) (f : DV → DV) : ∀ (ds : List DV) (acc : List DV),
    (∀ d ∈ ds, ∃ s1 s2 o s3 s4, bindP p d b = some s1 ∧ c s1 = .ok (g d) s2 ∧ wipeS s2 ws = b ∧ (g d = true → m s2 = .ok o s3 ∧ settle1 o s3 = some (f d, s4) ∧ wipeS s4 ws = b)) → lcl p c m ws ds acc b = .ok (acc ++ (ds.filter g).map f) b
  | [], acc, h => by simp [lcl]
  | d :: ds, acc, h => by
    obtain ⟨s1, s2, o, s3, s4, e1, e2, e3, e4⟩ := h d (by simp)
    have ih := fun acc => lcl_filter g f ds acc fun d hd => h d (by simp [hd])
    unfold lcl
    rw [e1]
    simp only [Res.bind_ok, e2]
    cases hg : g d with
    | true =>
      obtain ⟨h1, h2, h3⟩ := e4 hg
      simp only [if_true, h1, Res.bind_ok, h2, h3, ih]
      simp [List.filter_cons, hg]
    | false =>
      simp only [e3, ih]
      simp [List.filter_cons, hg]
/-- a while that ends within n turns -/
theorem whl_inv {c : TM} {b : SM} (I : Nat → Sl → Prop) : ∀ (n : Nat) (sl : Sl), I n sl → (∀ k s, I k s → (∃ s1, c s = .ok false s1 ∧ I 0 s1 ∧ True) ∨ (∃ s1 s2 j, c s = .ok true s1 ∧ b s1 = .nx s2 ∧ j < k ∧ I j s2)) →
    ∃ s n', whl c b n' sl = .nx s := fun n => by
  induction n using Nat.strongRecOn with
  | _ n ih =>
    intro sl h0 hs
    rcases hs n sl h0 with ⟨s1, e1, _, _⟩ | ⟨s1, s2, j, e1, e2, lt, h1⟩
    · exact ⟨s1, 1, by unfold whl; rw [e1]⟩
    · obtain ⟨s, n', e⟩ := ih j lt s2 h1 hs
      exact ⟨s, n' + 1, by unfold whl; rw [e1]; simp only [e2]; exact e⟩
theorem whl_S {c : TM} {b : SM} {n : Nat} {sl s : Sl} (h : whl c b n sl = .nx s) : S.whl c b sl = .nx s := whl_eq n h (by simp)
end Sy
namespace Sy
open PySem PySem.Spec PyProof.Rows L2
/-! ### data of a known shape -/
def shp : Nat → DV → Bool
  | _, .non => true
  | _, .bl _ => true
  | _, .int _ => true
  | _, .str x => PyData.strOk x
  | n + 1, .tup xs => decide (xs.length ≤ 10000000) && xs.all (shp n)
  | n + 1, .lst xs => decide (xs.length ≤ 10000000) && xs.all (shp n)
  | _, _ => false
theorem shp_all {n : Nat} (ih : ∀ d, shp n d = true → isD d = true ∧ (toP d).canLay0 = true ∧ (toP d).depth ≤ n) : ∀ xs : List DV, xs.all (shp n) = true → isDs xs = true ∧ PyData.canLayAll0 (toPs xs) = true ∧ PyData.depthAll (toPs xs) ≤ n
  | [], _ => by simp [isDs, toPs, PyData.canLayAll0, PyData.depthAll]
  | d :: ds, h => by
    rw [List.all_cons, Bool.and_eq_true] at h
    obtain ⟨h1, h2, h3⟩ := ih d h.1
    obtain ⟨g1, g2, g3⟩ := shp_all ih ds h.2
    refine ⟨?_, ?_, ?_⟩
    · rw [isDs, h1, g1]; rfl
    · rw [toPs, PyData.canLayAll0, h2, g2]; rfl
    · rw [toPs, PyData.depthAll]; omega
theorem shp_ok : ∀ (n : Nat) (d : DV), shp n d = true → isD d = true ∧ (toP d).canLay0 = true ∧ (toP d).depth ≤ n
  | n, .non, _ => by simp [isD, toP, PyData.canLay0, PyData.depth]
  | n, .bl _, _ => by simp [isD, toP, PyData.canLay0, PyData.depth]
  | n, .int _, _ => by simp [isD, toP, PyData.canLay0, PyData.depth]
  | n, .str x, h => by
    have h' : PyData.strOk x = true := by cases n <;> exact h
    simp [isD, toP, PyData.canLay0, PyData.depth, h']
  | n + 1, .tup xs, h => by
    rw [shp, Bool.and_eq_true] at h
    obtain ⟨h1, h2, h3⟩ := shp_all (shp_ok n) xs h.2
    refine ⟨by rw [isD]; exact h1, by rw [toP, PyData.canLay0]; exact h2, by rw [toP, PyData.depth]; omega⟩
  | n + 1, .lst xs, h => by
    rw [shp, Bool.and_eq_true] at h
    obtain ⟨h1, h2, h3⟩ := shp_all (shp_ok n) xs h.2
    refine ⟨by rw [isD]; exact h1, by rw [toP, PyData.canLay0]; exact h2, by rw [toP, PyData.depth]; omega⟩
  | 0, .tup xs, h => by cases h
  | 0, .lst xs, h => by cases h
  | 0, .scr xs, h => by cases h
  | n + 1, .scr xs, h => by cases h
  | 0, .ty xs, h => by cases h
  | n + 1, .ty xs, h => by cases h
  | 0, .obj _ _ _, h => by cases h
  | n + 1, .obj _ _ _, h => by cases h
  | 0, .xcp _ _ _ _, h => by cases h
  | n + 1, .xcp _ _ _ _, h => by cases h
  | 0, .dct _ _, h => by cases h
  | n + 1, .dct _ _, h => by cases h
theorem shp_okD {n : Nat} {d : DV} (hn : n ≤ 64) (h : shp n d = true) : okD d = true := by
  obtain ⟨h1, h2, h3⟩ := shp_ok n d h
  unfold okD SeqAt.shaped
  simp only [h1, h2, Bool.true_and, decide_eq_true_eq]
  omega
theorem eqD_of {n : Nat} {d e : DV} (hn : n ≤ 64) (h : shp n d = true) (h2 : shp n e = true) : eqD d e = bl (PyData.eqv (toP d) (toP e)) := by
  unfold eqD
  rw [if_pos ⟨shp_okD hn h, shp_okD hn h2⟩]
theorem neD_of {n : Nat} {d e : DV} (hn : n ≤ 64) (h : shp n d = true) (h2 : shp n e = true) : neD d e = bl (!PyData.eqv (toP d) (toP e)) := by
  unfold neD
  rw [if_pos ⟨shp_okD hn h, shp_okD hn h2⟩]
theorem eqD_refl {n : Nat} {d : DV} (hn : n ≤ 64) (h : shp n d = true) : eqD d d = bl true := by
  rw [eqD_of hn h h, SeqAt.eqv_refl _ (shp_ok n d h).2.1]
@[simp] theorem eqD_int {a b : Int} : eqD (.int a) (.int b) = bl (decide (a = b)) := by
  rw [eqD_of (n := 0) (by omega) rfl rfl, toP, toP, PyData.eqv]
  rfl
@[simp] theorem neD_int {a b : Int} : neD (.int a) (.int b) = bl (!decide (a = b)) := by
  rw [neD_of (n := 0) (by omega) rfl rfl, toP, toP, PyData.eqv]
  rfl
@[simp] theorem eqD_bl {a b : Bool} : eqD (.bl a) (.bl b) = bl (decide (a = b)) := by
  rw [eqD_of (n := 0) (by omega) rfl rfl, toP, toP, PyData.eqv]
  cases a <;> cases b <;> rfl
@[simp] theorem neD_bl {a b : Bool} : neD (.bl a) (.bl b) = bl (!decide (a = b)) := by
  rw [neD_of (n := 0) (by omega) rfl rfl, toP, toP, PyData.eqv]
  cases a <;> cases b <;> rfl
theorem shp_ints (n : Nat) (xs : List Int) : (xs.map DV.int).all (shp n) = true := by
  rw [List.all_eq_true]
  intro d h
  obtain ⟨i, _, rfl⟩ := List.mem_map.mp h
  cases n <;> rfl
theorem toPs_ints : ∀ xs : List Int, toPs (xs.map DV.int) = xs.map PyData.int
  | [] => rfl
  | x :: xs => by rw [List.map_cons, toPs, toP, toPs_ints xs, List.map_cons]
theorem eqvAll_ints : ∀ ns ms : List Int, PyData.eqvAll (ns.map PyData.int) (ms.map PyData.int) = decide (ns = ms)
  | [], [] => by simp [PyData.eqvAll]
  | [], _ :: _ => by simp [PyData.eqvAll]
  | _ :: _, [] => by simp [PyData.eqvAll]
  | a :: r, b :: t => by
    simp only [List.map_cons, PyData.eqvAll, PyData.eqv, eqvAll_ints r t]
    by_cases h : a = b <;> by_cases h' : r = t <;> simp [h, h']
theorem shp_tup {n : Nat} {xs : List DV} (h : xs.length ≤ 10000000) (h2 : xs.all (shp n) = true) : shp (n + 1) (.tup xs) = true := by
  rw [shp, h2, decide_eq_true h]; rfl
theorem shp_lst {n : Nat} {xs : List DV} (h : xs.length ≤ 10000000) (h2 : xs.all (shp n) = true) : shp (n + 1) (.lst xs) = true := by
  rw [shp, h2, decide_eq_true h]; rfl
theorem eqD_tints {a b : List Int} (ha : a.length ≤ 10000000) (hb : b.length ≤ 10000000) : eqD (.tup (a.map .int)) (.tup (b.map .int)) = bl (decide (a = b)) := by
  rw [eqD_of (n := 1) (by omega) (shp_tup (by simpa using ha) (shp_ints 0 a)) (shp_tup (by simpa using hb) (shp_ints 0 b)), toP, toP, PyData.eqv, toPs_ints, toPs_ints, eqvAll_ints]
theorem eqD_lints {a b : List Int} (ha : a.length ≤ 10000000) (hb : b.length ≤ 10000000) : eqD (.lst (a.map .int)) (.lst (b.map .int)) = bl (decide (a = b)) := by
  rw [eqD_of (n := 1) (by omega) (shp_lst (by simpa using ha) (shp_ints 0 a)) (shp_lst (by simpa using hb) (shp_ints 0 b)), toP, toP, PyData.eqv, toPs_ints, toPs_ints, eqvAll_ints]
@[simp] theorem cutL_take {α : Type} {xs : List α} {n : Nat} : cutL xs none (some (n : Int)) = xs.take n := by
  unfold cutL
  rw [HT.sIx_none, HT.sIx_nat, List.drop_zero, Nat.sub_zero]
  rcases Nat.le_total n xs.length with h | h
  · rw [Nat.min_eq_left h]
  · rw [Nat.min_eq_right h, List.take_of_length_le (Nat.le_refl _), List.take_of_length_le h]
@[simp] theorem cutL_drop {α : Type} {xs : List α} {n : Nat} : cutL xs (some (n : Int)) none = xs.drop n := by
  unfold cutL
  rw [HT.sIx_none, HT.sIx_nat]
  rcases Nat.le_total n xs.length with h | h
  · rw [Nat.min_eq_left h, List.take_of_length_le (by simp)]
  · rw [Nat.min_eq_right h, Nat.sub_self, List.take_zero, List.drop_eq_nil_of_le h]
@[simp] theorem cutL_mid {α : Type} {xs : List α} {n m : Nat} : cutL xs (some (n : Int)) (some (m : Int)) = (xs.drop n).take (m - n) := by
  unfold cutL
  rw [HT.sIx_nat, HT.sIx_nat]
  apply List.ext_getElem?
  intro i
  simp only [List.getElem?_take, List.getElem?_drop]
  by_cases h : min n xs.length + i < xs.length
  · have : min n xs.length = n := by omega
    rw [this]
    by_cases h2 : i < m - n
    · rw [if_pos (by omega), if_pos h2]
    · rw [if_neg (by omega), if_neg h2]
  · rw [List.getElem?_eq_none (by omega), List.getElem?_eq_none (by omega)]
    split <;> split <;> rfl
@[simp] theorem cutL_take0 {α : Type} {xs : List α} : cutL xs none (some 0) = [] := cutL_take (n := 0)
@[simp] theorem cutL_drop0 {α : Type} {xs : List α} : cutL xs (some 0) none = xs := cutL_drop (n := 0)
theorem atI_n {α : Type} {xs : List α} {n : Nat} : atI xs (n : Int) = xs[n]? := by
  unfold atI ixN
  rw [if_pos (by omega)]
  by_cases h : n < xs.length
  · rw [if_pos (by omega)]; simp
  · rw [if_neg (by omega), List.getElem?_eq_none (by omega)]; rfl
theorem atI_at {α : Type} {xs : List α} {i : Int} {x : α} (h0 : 0 ≤ i) (h : xs[i.toNat]? = some x) : atI xs i = some x := by
  have := atI_n (xs := xs) (n := i.toNat)
  rw [Int.toNat_of_nonneg h0] at this
  rw [this, h]
@[simp] theorem ups_len {a n : Int} : (ups a n).length = n.toNat := by simp [ups]
theorem ups_get {a n : Int} {i : Nat} {d : DV} (h : (ups a n)[i]? = some d) : d = .int (a + i) ∧ i < n.toNat := by
  unfold ups at h
  rw [List.getElem?_map] at h
  by_cases hi : i < n.toNat
  · rw [List.getElem?_range hi] at h
    cases h
    exact ⟨rfl, hi⟩
  · rw [List.getElem?_eq_none (by simpa using hi)] at h
    cases h
/-! ### the defs of one family -/
noncomputable def l_draws1_1 : SM := (S.ife (T.val (E.bin gtD (E.var 3) (E.c (.int 0)))) (S.seq (S.expr (E.mth appF 1 (A.cons (E.bin modD (E.app intD (A.cons (E.var 3) A.nil)) (E.c (.int 997))) A.nil)))
    (S.asg 3 (E.bin fdivD (E.var 3) (E.c (.int 997))))) S.nil)
noncomputable def l_draws1_2 : SM := (S.seq (S.asg 3 (E.app absD (A.cons (E.var 2) A.nil)))
    (S.seq (S.ife (T.val (E.bin ltD (E.var 3) (E.bin powD (E.c (.int 10)) (E.c (.int 18))))) (S.seq (S.asg 4 (E.bin modD (E.app intD (A.cons (E.bin addD (E.bin mulD (E.var 3) (E.c (.int 48271))) (E.c (.int 11))) A.nil)) (E.c (.int 2147483647))))
    (S.seq (S.expr (E.mth appF 1 (A.cons (E.bin modD (E.app intD (A.cons (E.bin addD (E.bin mulD (E.var 4) (E.c (.int 69621))) (E.var 3)) A.nil)) (E.c (.int 2147483629))) A.nil)))
    (S.seq (S.expr (E.mth appF 1 (A.cons (E.bin modD (E.app intD (A.cons (E.bin addD (E.var 4) (E.bin fdivD (E.var 3) (E.c (.int 7)))) A.nil)) (E.c (.int 1000003))) A.nil)))
    (S.asg 3 (E.c (.int 0)))))) S.nil)
    (S.forr (I.rng1 (A.cons (E.c (.int 60)) A.nil)) (.nm 5) l_draws1_1)))
noncomputable def l_draws1_3 : SM := (S.seq (S.asg 6 (E.bin modD (E.app intD (A.cons (E.bin addD (E.bin mulD (E.var 6) (E.c (.int 48271))) (E.c (.int 69621))) A.nil)) (E.c (.int 2147483647))))
    (S.expr (E.mth appF 1 (A.cons (E.bin fdivD (E.var 6) (E.c (.int 5))) A.nil))))
noncomputable def b_draws1 : SM := (S.seq (S.asg 1 (E.lst A.nil))
    (S.seq (S.forr (I.lst (E.var 0)) (.nm 2) l_draws1_2)
    (S.seq (S.asg 6 (E.c (.int 1)))
    (S.seq (S.ife (T.val (E.bin gtD (E.app lenD (A.cons (E.var 0) A.nil)) (E.c (.int 0)))) (S.asg 6 (E.bin addD (E.c (.int 1)) (E.app absD (A.cons (E.bin ixD (E.var 0) (E.c (.int 0))) A.nil)))) S.nil)
    (S.seq (S.forr (I.rng1 (A.cons (E.c (.int 240)) A.nil)) (.nm 5) l_draws1_3)
    (S.ret 1 (E.un revD (E.var 1))))))))
noncomputable def r_draws1 : FM := fn 1 6 [1, 2, 3, 4, 5, 6] b_draws1
noncomputable def b_take1 : SM := (S.seq (S.ife (T.val (E.bin eqD (E.app lenD (A.cons (E.var 0) A.nil)) (E.c (.int 0)))) (S.ret 2 (E.c (.int 0))) S.nil)
    (S.ret 2 (E.bin modD (E.app intD (A.cons (E.mth popF 0 A.nil) A.nil)) (E.var 1))))
noncomputable def r_take1 : FM := fn 2 0 [] b_take1
noncomputable def l_same1_1 (g : FM) : SM := (S.ife (T.not (T.tru (E.call 2 g (A.cons (E.bin ixD (E.var 0) (E.var 2)) (A.cons (E.bin ixD (E.var 1) (E.var 2)) A.nil))))) (S.ret 2 (E.c (.bl false))) S.nil)
noncomputable def b_same1 (g : FM) : SM := (S.seq (S.ife (T.or (T.tru (E.app isiD (A.cons (E.var 1) (A.cons (E.c (.ty .tup)) A.nil)))) (T.tru (E.app isiD (A.cons (E.var 1) (A.cons (E.c (.ty .lst)) A.nil))))) (S.seq (S.ife (T.or (T.val (E.bin neD (E.app isiD (A.cons (E.var 1) (A.cons (E.c (.ty .tup)) A.nil))) (E.app isiD (A.cons (E.var 0) (A.cons (E.c (.ty .tup)) A.nil))))) (T.val (E.bin neD (E.app isiD (A.cons (E.var 1) (A.cons (E.c (.ty .lst)) A.nil))) (E.app isiD (A.cons (E.var 0) (A.cons (E.c (.ty .lst)) A.nil)))))) (S.ret 2 (E.c (.bl false))) S.nil)
    (S.seq (S.ife (T.val (E.bin neD (E.app lenD (A.cons (E.var 0) A.nil)) (E.app lenD (A.cons (E.var 1) A.nil)))) (S.ret 2 (E.c (.bl false))) S.nil)
    (S.seq (S.forr (I.rng1 (A.cons (E.app lenD (A.cons (E.var 1) A.nil)) A.nil)) (.nm 2) (l_same1_1 g))
    (S.ret 2 (E.c (.bl true)))))) S.nil)
    (S.seq (S.ife (T.val (E.bin neD (E.app isiD (A.cons (E.var 1) (A.cons (E.c (.ty .bl)) A.nil))) (E.app isiD (A.cons (E.var 0) (A.cons (E.c (.ty .bl)) A.nil))))) (S.ret 2 (E.c (.bl false))) S.nil)
    (S.seq (S.ife (T.or (T.val (E.bin neD (E.app isiD (A.cons (E.var 1) (A.cons (E.c (.ty .int)) A.nil))) (E.app isiD (A.cons (E.var 0) (A.cons (E.c (.ty .int)) A.nil))))) (T.val (E.bin neD (E.app isiD (A.cons (E.var 1) (A.cons (E.c (.ty .str)) A.nil))) (E.app isiD (A.cons (E.var 0) (A.cons (E.c (.ty .str)) A.nil)))))) (S.ret 2 (E.c (.bl false))) S.nil)
    (S.ret 2 (E.bin eqD (E.var 0) (E.var 1))))))
noncomputable def r_same1 : Nat → FM
  | 0 => fun _ => .stuck
  | k + 1 => fn 2 1 [2] (b_same1 (r_same1 k))

theorem take1 {xs : List Int} {b : Int} (hb : 0 < b) : ∃ v ys, 0 ≤ v ∧ v < b ∧ r_take1 [.lst (xs.map .int), .val (.int b)] = .ok (.val (.int v)) [.lst (List.map DV.int ys), .val (.int b)] := by
  rcases List.eq_nil_or_concat xs with rfl | ⟨ys, y, rfl⟩
  · refine ⟨0, [], by omega, hb, ?_⟩
    simp [r_take1, b_take1]
  · have h : ¬ ((ys.length : Int) + 1 = 0) := by omega
    have h2 : ¬ b = 0 := by omega
    refine ⟨y.fmod b, ys, ?_, ?_, ?_⟩
    · exact Int.fmod_nonneg_of_pos y hb
    · exact Int.fmod_lt_of_pos y hb
    · simp [r_take1, b_take1, h, h2]

theorem same1_step {g : FM} {d : DV} {xs : List DV} {m1 m2 : MV} {tl : Option MV} (hd : (d = .lst xs ∨ d = .tup xs)) (h1 : m1.view = d) (h2 : m2.view = d) (hg : ∀ x ∈ xs, g [.val x, .val x] = .ok (.val (.bl true)) [.val x, .val x]) :
    ∃ s, loop (.nm 2) (l_same1_1 g) (ups 0 (xs.length : Int)) [some m1, some m2, tl] = .nx s ∧ ∃ y, s = [some m1, some m2, y] := by
  obtain ⟨s, e, y, hs⟩ := loop_inv (p := .nm 2) (b := l_same1_1 g) (fun _ s => ∃ y, s = [some m1, some m2, y]) (ups 0 (xs.length : Int)) 0 [some m1, some m2, tl] ⟨tl, rfl⟩ (by
    rintro i d' s hd' ⟨y, rfl⟩
    obtain ⟨rfl, hi⟩ := ups_get hd'
    have hi' : i < xs.length := by simpa using hi
    have hx : atI xs (i : Int) = some xs[i] := by rw [atI_n]; exact List.getElem?_eq_getElem hi'
    have hx' := hg _ (List.getElem_mem hi')
    refine ⟨[some m1, some m2, some (.val (.int (0 + (i : Int))))], [some m1, some m2, some (.val (.int (0 + (i : Int))))], by simp, .inl ?_, _, rfl⟩
    rcases hd with rfl | rfl <;> simp [l_same1_1, h1, h2, hx, hx'])
  exact ⟨s, e, y, hs⟩
theorem same1_go (k : Nat) (ih : ∀ (n : Nat) (d : DV) (m1 m2 : MV), n ≤ 64 → n < k → shp n d = true → m1.view = d → m2.view = d → r_same1 k [m1, m2] = .ok (.val (.bl true)) [m1, m2]) (n : Nat) (d : DV) (m1 m2 : MV) (h64 : n ≤ 64) (h : n < k + 1) (hs : shp n d = true) (h1 : m1.view = d) (h2 : m2.view = d) :
    r_same1 (k + 1) [m1, m2] = .ok (.val (.bl true)) [m1, m2] := by
  have er := eqD_refl h64 hs
  cases d with
  | non => simp [r_same1, b_same1, h1, h2, tyOf, subTy, er]
  | bl b => simp [r_same1, b_same1, h1, h2, tyOf, subTy, er]
  | int b => simp [r_same1, b_same1, h1, h2, tyOf, subTy, er]
  | str b => simp [r_same1, b_same1, h1, h2, tyOf, subTy, er]
  | scr b => cases n <;> cases hs
  | ty b => cases n <;> cases hs
  | obj _ _ _ => cases n <;> cases hs
  | xcp _ _ _ _ => cases n <;> cases hs
  | dct _ _ => cases n <;> cases hs
  | tup xs =>
    cases n with
    | zero => cases hs
    | succ n =>
      rw [shp, Bool.and_eq_true, decide_eq_true_eq, List.all_eq_true] at hs
      obtain ⟨s, e, y, rfl⟩ := same1_step (g := r_same1 k) (tl := none) (.inr rfl) h1 h2 fun x hx => ih n x _ _ (by omega) (by omega) (hs.2 x hx) rfl rfl
      have hl : (xs.length : Int) ≤ 4000000000 := by omega
      simp [r_same1, b_same1, h1, h2, tyOf, subTy, er, hl, e]
  | lst xs =>
    cases n with
    | zero => cases hs
    | succ n =>
      rw [shp, Bool.and_eq_true, decide_eq_true_eq, List.all_eq_true] at hs
      obtain ⟨s, e, y, rfl⟩ := same1_step (g := r_same1 k) (tl := none) (.inl rfl) h1 h2 fun x hx => ih n x _ _ (by omega) (by omega) (hs.2 x hx) rfl rfl
      have hl : (xs.length : Int) ≤ 4000000000 := by omega
      simp [r_same1, b_same1, h1, h2, tyOf, subTy, er, hl, e]
theorem same1_ok (k : Nat) : ∀ (n : Nat) (d : DV) (m1 m2 : MV), n ≤ 64 → n < k → shp n d = true → m1.view = d → m2.view = d → r_same1 k [m1, m2] = .ok (.val (.bl true)) [m1, m2] := by
  induction k with
  | zero => intro n d m1 m2 _ h; exact absurd h (Nat.not_lt_zero _)
  | succ k ih => exact same1_go k ih
/-! the draws -/
abbrev IL (xs : List Int) : MV := .lst (xs.map .int)
theorem draws1_in (r : List Int) (m0 : MV) (x2 x4 x5 x6 : Option MV) (v : Int) (hl : r.length ≤ 1000000) :
    ∃ s, loop (.nm 5) l_draws1_1 (ups 0 60) [some m0, some (IL r), x2, some (.val (.int v)), x4, x5, x6] = .nx s ∧ ∃ (r' : List Int) (y3 y5 : Option MV), r'.length ≤ r.length + 60 ∧ s = [some m0, some (IL r'), x2, y3, x4, y5, x6] := by
  obtain ⟨s, e, r', v', y5, h1, rfl⟩ := loop_inv (p := .nm 5) (b := l_draws1_1) (fun k s => ∃ (r' : List Int) (v : Int) (y5 : Option MV), r'.length ≤ r.length + k ∧ s = [some m0, some (IL r'), x2, some (.val (.int v)), x4, y5, x6]) (ups 0 60) 0 [some m0, some (IL r), x2, some (.val (.int v)), x4, x5, x6] ⟨r, v, x5, by omega, rfl⟩ (by
    rintro i d' s hd' ⟨r', v, y5, hr, rfl⟩
    obtain ⟨rfl, hi⟩ := ups_get hd'
    have h2 : r'.length ≤ 10000000 := by omega
    by_cases hv : 0 < v
    · exact ⟨_, _, by simp; rfl, .inl (by simp [l_draws1_1, hv, h2]; rfl), r' ++ [v.fmod 997], v.fdiv 997, some (.val (.int i)), by simp; omega, by simp⟩
    · exact ⟨_, _, by simp; rfl, .inl (by simp [l_draws1_1, hv, h2]; rfl), r', v, some (.val (.int i)), by omega, by simp⟩)
  rw [ups_len] at h1
  exact ⟨_, e, r', _, y5, by omega, rfl⟩

theorem draws1_cell (m0 : MV) (r : List Int) (c : Int) (y3 y4 y5 x6 : Option MV) (hr : r.length ≤ 900000) :
    ∃ (r' : List Int) (z3 z4 z5 : Option MV), l_draws1_2 [some m0, some (IL r), some (.val (.int c)), y3, y4, y5, x6] = .nx [some m0, some (IL r'), some (.val (.int c)), z3, z4, z5, x6] ∧ r'.length ≤ r.length + 62 := by
  have h2 : r.length ≤ 10000000 := by omega
  have h3 : r.length + 1 ≤ 10000000 := by omega
  generalize hv : (if c < 0 then -c else c) = v
  by_cases hb : v < 1000000000000000000
  · generalize hf : (v * 48271 + 11).fmod 2147483647 = f
    obtain ⟨s, e, r', z3, z5, hr', rfl⟩ := draws1_in (r ++ [(f * 69621 + v).fmod 2147483629, (f + v.fdiv 7).fmod 1000003]) m0 (some (.val (.int c))) (some (.val (.int f))) y5 x6 0 (by simp; omega)
    simp [IL] at e hr'
    exact ⟨r', z3, some (.val (.int f)), z5, by simp [l_draws1_2, hv, hb, hf, h2, h3, e], by omega⟩
  · obtain ⟨s, e, r', z3, z5, hr', rfl⟩ := draws1_in r m0 (some (.val (.int c))) y4 y5 x6 v (by omega)
    exact ⟨r', z3, y4, z5, by simp [l_draws1_2, hv, hb, e], by omega⟩
theorem draws1_cells (ns : List Int) (m0 : MV) (x2 x3 x4 x5 x6 : Option MV) (hl : ns.length ≤ 1000) :
    ∃ (r : List Int) (y2 y3 y4 y5 : Option MV), loop (.nm 2) l_draws1_2 (ns.map .int) [some m0, some (IL []), x2, x3, x4, x5, x6] = .nx [some m0, some (IL r), y2, y3, y4, y5, x6] ∧ r.length ≤ 62000 := by
  obtain ⟨s, e, r, y2, y3, y4, y5, h1, rfl⟩ := loop_inv (p := .nm 2) (b := l_draws1_2) (fun k s => ∃ (r : List Int) (y2 y3 y4 y5 : Option MV), r.length ≤ 62 * k ∧ s = [some m0, some (IL r), y2, y3, y4, y5, x6]) (ns.map .int) 0 [some m0, some (IL []), x2, x3, x4, x5, x6] ⟨[], x2, x3, x4, x5, by simp, rfl⟩ (by
    rintro i d s hd ⟨r, y2, y3, y4, y5, hr, rfl⟩
    obtain ⟨c, hc, rfl⟩ : ∃ c, ns[i]? = some c ∧ d = .int c := by
      rw [List.getElem?_map] at hd
      cases hc : ns[i]? with
      | none => rw [hc] at hd; cases hd
      | some c => rw [hc] at hd; cases hd; exact ⟨c, rfl, rfl⟩
    have hi : i < ns.length := (List.getElem?_eq_some_iff.mp hc).1
    obtain ⟨r', z3, z4, z5, e, hr'⟩ := draws1_cell m0 r c y3 y4 y5 x6 (by omega)
    exact ⟨[some m0, some (IL r), some (.val (.int c)), y3, y4, y5, x6], _, by simp, .inl e, r', _, _, _, _, by omega, rfl⟩)
  rw [List.length_map] at h1
  exact ⟨r, y2, y3, y4, y5, e, by omega⟩
theorem draws1_seed (r : List Int) (m0 : MV) (x2 x3 x4 x5 : Option MV) (v : Int) (hl : r.length ≤ 1000000) :
    ∃ (r' : List Int) (y5 y6 : Option MV), loop (.nm 5) l_draws1_3 (ups 0 240) [some m0, some (IL r), x2, x3, x4, x5, some (.val (.int v))] = .nx [some m0, some (IL r'), x2, x3, x4, y5, y6] := by
  obtain ⟨s, e, r', v', y5, h1, rfl⟩ := loop_inv (p := .nm 5) (b := l_draws1_3) (fun k s => ∃ (r' : List Int) (v : Int) (y5 : Option MV), r'.length ≤ r.length + k ∧ s = [some m0, some (IL r'), x2, x3, x4, y5, some (.val (.int v))]) (ups 0 240) 0 [some m0, some (IL r), x2, x3, x4, x5, some (.val (.int v))] ⟨r, v, x5, by omega, rfl⟩ (by
    rintro i d' s hd' ⟨r', v, y5, hr, rfl⟩
    obtain ⟨rfl, hi⟩ := ups_get hd'
    have hi' : i < 240 := by simpa using hi
    have h2 : r'.length ≤ 10000000 := by omega
    generalize hw : (v * 48271 + 69621).fmod 2147483647 = w
    have e : l_draws1_3 [some m0, some (IL r'), x2, x3, x4, some (.val (.int (0 + i))), some (.val (.int v))] = .nx [some m0, some (IL (r' ++ [w.fdiv 5])), x2, x3, x4, some (.val (.int (0 + i))), some (.val (.int w))] := by simp [l_draws1_3, h2, hw]
    exact ⟨_, _, by simp, .inl e, _, w, _, by simp; omega, rfl⟩)
  exact ⟨r', _, _, e⟩
theorem draws1_ok (ns : List Int) (hl : ns.length ≤ 1000) : ∃ xs : List Int, r_draws1 [.val (.scr (ns.map .int))] = .ok (IL xs) [.val (.scr (ns.map .int))] := by
  obtain ⟨r, y2, y3, y4, y5, e, h1⟩ := draws1_cells ns (.val (.scr (ns.map .int))) none none none none none hl
  cases ns with
  | nil =>
    obtain ⟨r', z5, z6, e2⟩ := draws1_seed r (.val (.scr [])) y2 y3 y4 y5 1 (by omega)
    refine ⟨r'.reverse, ?_⟩
    simp [IL] at e e2
    simp [r_draws1, b_draws1, e, e2]
  | cons c cs =>
    obtain ⟨r', z5, z6, e2⟩ := draws1_seed r (.val (.scr ((c :: cs).map .int))) y2 y3 y4 y5 (1 + (if c < 0 then -c else c)) (by omega)
    refine ⟨r'.reverse, ?_⟩
    have h0 : atI (DV.int c :: cs.map DV.int) 0 = some (.int c) := atI_n (n := 0)
    have h5 : (0 : Int) < cs.length + 1 := by omega
    simp [IL] at e e2
    simp [r_draws1, b_draws1, e, e2, h0, h5]
end Sy
namespace Sy
open PySem PySem.Spec PyProof.Rows L2
/-! ### comprehensions with two fors -/
def lcl2 (p : Pat) (c : TM) (it1 : IM) (p1 : Pat) (c1 : TM) (m : EM) (ws ws1 : List Nat) : List DV → List DV → Sl → Res (List DV)
  | [], acc, b => .ok acc b
  | d :: ds, acc, b => match bindP p d b with
    | none => .stuck
    | some b => (c b).bind fun k b => if k then (it1 b).bind fun ds1 b => if (ws1.all fun i => !isOwn b i) = true ∧ acc.length + ds1.length ≤ 10000000 then
        (lcl p1 c1 m ws1 ds1 acc (wipeS b ws1)).bind fun acc b => lcl2 p c it1 p1 c1 m ws ws1 ds acc (wipeS b ws) else .stuck
      else lcl2 p c it1 p1 c1 m ws ws1 ds acc (wipeS b ws)
def E.lc2 (it : IM) (p : Pat) (c : TM) (it1 : IM) (p1 : Pat) (c1 : TM) (m : EM) (ws ws1 : List Nat) : EM := fun sl => (it sl).bind fun ds s1 => if (ws.all fun i => !isOwn s1 i) = true ∧ ds.length ≤ 10000000 then
  (lcl2 p c it1 p1 c1 m ws ws1 ds [] (wipeS s1 ws)).bind fun acc b => .ok (.tmp (.lst acc)) (restS s1 b ws) else .stuck
theorem same_trans {a b c : Hp} (h : Same a b) (k : Same b c) : Same a c := fun x o e => k x o (h x o e)
theorem lcl_run {K : PySem.W.Frag} {O : Addr → Prop} {Dl : Addr} {p : Pat} {c : TM} {m : EM} {ws : List Nat} {σ : L2.St} {J : It} {ds acc : List DV} {bf : Sl} {Wb : Own} {Hb : Hp} (hDb : Hb Dl = none) (oD : O Dl)
    {W1 : Own} {H1 : Hp} {b : Sl} {accd : List DV} {accv : List V} {G : Hp} (x1 : Sim K O W1 b (L2.wipe σ ws) H1) (t1 : Tr Wb Hb W1 (· ∈ [Dl]) H1) (hH1 : H1 Dl = some (.lst accv)) (ra1 : RDs K (gr O W1 H1) accd accv) (hl : accd.length + ds.length ≤ 10000000)
    (sG : Same G (gr O W1 H1)) (itok : ItOk K G ds J) (e : lcl p c m ws ds accd b = .ok acc bf) :
    ∃ Wf : Nat → Nat → Hp → Prop, (∃ m, Wf 0 m H1) ∧ ∀ i k H', Wf i k H' → (J.stop i H' ∧ ∃ W' accv', Sim K O W' bf (L2.wipe σ ws) H' ∧ Tr Wb Hb W' (· ∈ [Dl]) H' ∧ Same G (gr O W' H') ∧ H' Dl = some (.lst accv') ∧ RDs K (gr O W' H') acc accv' ∧ acc.length ≤ accd.length + ds.length) ∨
      (J.go i H' ∧ ∃ Nx : Hp → Prop, (∀ H'', Nx H'' → ∃ m', m' < k ∧ Wf (i + 1) m' H'') ∧ ∀ x H'', J.yld i H' x H'' → tG K p ws x (L2.wipe σ ws) H'' fun σ2 H2 => L2.wipe σ2 ws = L2.wipe σ ws ∧ tT K c σ2 H2 fun b H3 =>
        if b = true then tE K m σ2 H3 fun y H4 => ∃ acc, H4 Dl = some (.lst acc) ∧ acc.length < sizeLine ∧ Nx (upd H4 Dl (.lst (acc ++ [y]))) else Nx H3) := by
  refine ⟨fun i k H' => k = ds.length - i ∧ i ≤ ds.length ∧ ∃ W' b accd' accv, Sim K O W' b (L2.wipe σ ws) H' ∧ Tr Wb Hb W' (· ∈ [Dl]) H' ∧ Same G (gr O W' H') ∧ H' Dl = some (.lst accv) ∧ RDs K (gr O W' H') accd' accv ∧ accd'.length ≤ accd.length + i ∧
      lcl p c m ws (ds.drop i) accd' b = .ok acc bf, ⟨_, rfl, Nat.zero_le _, W1, _, accd, accv, x1, t1, sG, hH1, ra1, Nat.le_refl _, e⟩, ?_⟩
  rintro i k H' ⟨rfl, hi, W', b, accd', accv, x', t', s', hH, ra, hla, el⟩
  obtain ⟨go, stop⟩ := itok i H' (own O W') (fun a => x'.ownAlive) s'
  by_cases hlt : i < ds.length
  · obtain ⟨g1, g2⟩ := go hlt
    refine .inr ⟨g1, fun H2 => ∃ W' b accd' accv, Sim K O W' b (L2.wipe σ ws) H2 ∧ Tr Wb Hb W' (· ∈ [Dl]) H2 ∧ Same G (gr O W' H2) ∧ H2 Dl = some (.lst accv) ∧ RDs K (gr O W' H2) accd' accv ∧ accd'.length ≤ accd.length + (i + 1) ∧
      lcl p c m ws (ds.drop (i + 1)) accd' b = .ok acc bf, fun H2 h => ⟨ds.length - (i + 1), by omega, rfl, hlt, h⟩, fun y H2 hy => ?_⟩
    obtain ⟨sm, d, ed, rd⟩ := g2 y H2 hy
    have hd : ds.drop i = d :: ds.drop (i + 1) := by
      rw [List.drop_eq_getElem_cons hlt]
      have : ds[i] = d := by
        rw [List.getElem?_eq_getElem hlt] at ed
        exact Option.some.inj ed
      rw [this]
    rw [hd] at el
    unfold lcl at el
    have x2 : Sim K O W' b (L2.wipe σ ws) H2 := x'.grow sm (fun a h => .inl h) fun a h => by
      obtain ⟨ob, e⟩ := x'.al a h
      exact ⟨ob, sm a ob e⟩
    have t2 : Tr W' H' W' nof H2 := Tr.ofSame sm fun _ h => h.elim
    cases eb : bindP p d b with
    | none => rw [eb] at el; cases el
    | some b3 =>
      rw [eb] at el
      obtain ⟨kk, b4, ec, el⟩ := bind_ok el
      refine ⟨O, W', b, d, b3, x2, rd, eb, fun W3 σ3 x3 sh3 a3 => ⟨wipe_agr a3 (by rw [← x3.len, ← wipe_length σ ws, ← x2.len]; exact (bindP_len p d b b3 eb)), ?_⟩⟩
      have hw : L2.wipe σ3 ws = L2.wipe σ ws := wipe_agr a3 (by rw [← x3.len, ← wipe_length σ ws, ← x2.len]; exact (bindP_len p d b b3 eb))
      refine tT_mk x3 ec fun W4 H4 t4 x4 => ?_
      have t14 : Tr W' H' W4 nof H4 := (tr_shr t2 sh3).trans t4
      cases kk with
      | false =>
        rw [if_neg Bool.false_ne_true] at el ⊢
        obtain ⟨W5, x5, sh5⟩ := x4.wipe ws
        rw [hw] at x5
        have t15 := tr_shr t14 sh5
        refine ⟨W5, _, accd', accv, x5, ⟨(t'.trans t15).keep, (t'.trans t15).new, t'.newf⟩, same_trans s' (gr_tr t15 fun a h => .inl h), t15.keep _ _ hH fun j hj => x'.dis j _ hj oD, ra.up (gr_tr t15 fun a h => .inl h), by omega, el⟩
      | true =>
        rw [if_pos rfl] at el ⊢
        obtain ⟨o, b5, em, el⟩ := bind_ok el
        refine tE_mk x4 em fun W5 f5 v5 H5 t5 x5 r5 n5 => ?_
        cases es : settle1 o b5 with
        | none => rw [es] at el; cases el
        | some pr =>
          obtain ⟨ee, b6⟩ := pr
          rw [es] at el
          obtain ⟨W6, x6, rd6, sh6⟩ := settle1_ok x5 r5 n5 es
          have t15 : Tr W' H' W5 nof H5 := t14.trans t5.noL
          have t16 : Tr W' H' W6 nof H5 := tr_shr t15 sh6
          have hH5 : H5 Dl = some (.lst accv) := t16.keep _ _ hH fun j hj => x'.dis j _ hj oD
          have sg5 : Same (gr O W' H') (gr O W6 H5) := gr_tr t16 (O1 := O) fun a h => .inl h
          have ra5 := ra.up sg5
          refine ⟨accv, hH5, ?_, ?_⟩
          · rw [← RDs.length ra]
            rw [sizeLine_eq]
            omega
          · obtain ⟨x7, s7⟩ := x6.updO (a := Dl) (o := .lst (accv ++ [v5])) oD
            obtain ⟨W8, x8, sh8⟩ := x7.wipe ws
            rw [hw] at x8
            have t8 : Tr Wb Hb W8 (· ∈ [Dl]) (upd H5 Dl (.lst (accv ++ [v5]))) := by
              have t17 := t'.trans (tr_shr t16 sh8)
              refine ⟨fun a ob h hn => ?_, t17.new, t'.newf⟩
              have na : a ≠ Dl := ne_of_none h hDb
              rw [upd_ne na]
              exact t17.keep a ob h hn
            refine ⟨W8, _, accd' ++ [ee], accv ++ [v5], x8, t8, same_trans (same_trans (same_trans s' sg5) s7) (gs_same sh8), upd_same, ?_, by simp; omega, el⟩
            exact RDs.append ((ra5.up s7).up (gs_same sh8)) (.cons ((rd6.up s7).up (gs_same sh8)) .nil)
  · have e : i = ds.length := by omega
    subst e
    rw [List.drop_length] at el
    unfold lcl at el
    cases el
    exact .inl ⟨stop (Nat.le_refl _), W', accv, x', t', s', hH, ra, hla⟩
theorem wipe_wipe {σ : L2.St} {ws ws1 : List Nat} (h : ∀ i ∈ ws1, i ∈ ws) : L2.wipe (L2.wipe σ ws1) ws = L2.wipe σ ws := by
  refine List.ext_getElem? fun i => ?_
  by_cases hi : i ∈ ws
  · by_cases hl : i < σ.length
    · rw [wipe_in hi (by rw [wipe_length]; exact hl), wipe_in hi hl]
    · rw [List.getElem?_eq_none (by rw [wipe_length, wipe_length]; omega), List.getElem?_eq_none (by rw [wipe_length]; omega)]
  · rw [wipe_out hi, wipe_out hi, wipe_out fun z => hi (h i z)]
theorem lc2_imp {K : PySem.W.Frag} {it it1 : IM} {p p1 : Pat} {c c1 : TM} {m : EM} {ws ws1 : List Nat} {σ : L2.St} {H : Hp} {Q : VK} (hv : ∀ i ∈ ws1, i ∈ ws) (q : tE K (E.lc2 it p c it1 p1 c1 m ws ws1) σ H Q) : tLc2 (tI K it) (tG K p ws) (tT K c) (tI K it1) (tG K p1 ws1) (tT K c1) (tE K m) ws ws1 σ H Q := by
  obtain ⟨O, W, sl, o, sl', x, e, q⟩ := tE_of q
  obtain ⟨ds, s1, e1, e2⟩ := bind_ok e
  by_cases hc : (ws.all fun i => !isOwn s1 i) = true ∧ ds.length ≤ 10000000
  · rw [if_pos hc] at e2
    obtain ⟨hno, hlen⟩ := hc
    obtain ⟨acc, bf, e3, e4⟩ := bind_ok e2
    cases e4
    refine ⟨O, W, sl, x, ?_⟩
    rw [e1]
    intro W1 H1 J t1 x1 itok Dl hD
    have nD : ¬ O Dl := fun h => by
      obtain ⟨ob, e⟩ := x1.al Dl h
      rw [hD] at e; cases e
    have s0 : Same H1 (upd H1 Dl (.lst [])) := fun b ob e => by rw [upd_ne (ne_of_none e hD)]; exact e
    have x1' : Sim K (plus O [Dl]) W1 s1 σ (upd H1 Dl (.lst [])) := x1.grow s0 (fun a h => h.imp id fun h => by simp at h; rw [h]; exact hD) fun a h => by
      rcases h with h | h
      · obtain ⟨ob, e⟩ := x1.al a h
        exact ⟨ob, s0 a ob e⟩
      · simp at h; subst h; exact ⟨_, upd_same⟩
    obtain ⟨W0, x0, sh0⟩ := x1'.wipe ws
    have t0 : Tr W1 H1 W0 (· ∈ [Dl]) (upd H1 Dl (.lst [])) := tr_shr (Tr.ofSame s0 fun a h => by simp at h; rw [h]; exact hD) sh0
    have oD : plus O [Dl] Dl := .inr (by simp)
    refine ⟨fun i k H' => k = ds.length - i ∧ i ≤ ds.length ∧ ∃ W' b accd accv, Sim K (plus O [Dl]) W' b (L2.wipe σ ws) H' ∧ Tr W1 H1 W' (· ∈ [Dl]) H' ∧ H' Dl = some (.lst accv) ∧ RDs K (gr (plus O [Dl]) W' H') accd accv ∧
      lcl2 p c it1 p1 c1 m ws ws1 (ds.drop i) accd b = .ok acc bf, ⟨_, rfl, Nat.zero_le _, W0, _, [], [], x0, t0, upd_same, .nil, e3⟩, ?_⟩
    rintro i k H' ⟨rfl, hi, W', b, accd, accv, x', t', hH, ra, el⟩
    have hG0 : Same (gr O W1 H1) (gr (plus O [Dl]) W' H') := gr_tr t' fun a h => h
    obtain ⟨go, stop⟩ := itok i H' (own (plus O [Dl]) W') (fun a => x'.ownAlive) hG0
    by_cases hlt : i < ds.length
    · obtain ⟨g1, g2⟩ := go hlt
      refine .inr ⟨g1, fun H2 => ∃ W' b accd accv, Sim K (plus O [Dl]) W' b (L2.wipe σ ws) H2 ∧ Tr W1 H1 W' (· ∈ [Dl]) H2 ∧ H2 Dl = some (.lst accv) ∧ RDs K (gr (plus O [Dl]) W' H2) accd accv ∧
        lcl2 p c it1 p1 c1 m ws ws1 (ds.drop (i + 1)) accd b = .ok acc bf, fun H2 h => ⟨ds.length - (i + 1), by omega, rfl, hlt, h⟩, fun y H2 hy => ?_⟩
      obtain ⟨sm, d, ed, rd⟩ := g2 y H2 hy
      have hd : ds.drop i = d :: ds.drop (i + 1) := by
        rw [List.drop_eq_getElem_cons hlt]
        have : ds[i] = d := by
          rw [List.getElem?_eq_getElem hlt] at ed
          exact Option.some.inj ed
        rw [this]
      rw [hd] at el
      unfold lcl2 at el
      have x2 : Sim K (plus O [Dl]) W' b (L2.wipe σ ws) H2 := x'.grow sm (fun a h => .inl h) fun a h => by
        obtain ⟨ob, e⟩ := x'.al a h
        exact ⟨ob, sm a ob e⟩
      have t2 : Tr W' H' W' nof H2 := Tr.ofSame sm fun _ h => h.elim
      cases eb : bindP p d b with
      | none => rw [eb] at el; cases el
      | some b3 =>
        rw [eb] at el
        obtain ⟨kk, b4, ec, el⟩ := bind_ok el
        refine ⟨plus O [Dl], W', b, d, b3, x2, rd, eb, fun W3 σ3 x3 sh3 a3 => ⟨wipe_agr a3 (by rw [← x3.len, ← wipe_length σ ws, ← x2.len]; exact (bindP_len p d b b3 eb)), ?_⟩⟩
        have hw : L2.wipe σ3 ws = L2.wipe σ ws := wipe_agr a3 (by rw [← x3.len, ← wipe_length σ ws, ← x2.len]; exact (bindP_len p d b b3 eb))
        refine tT_mk x3 ec fun W4 H4 t4 x4 => ?_
        have t14 : Tr W' H' W4 nof H4 := (tr_shr t2 sh3).trans t4
        cases kk with
        | false =>
          rw [if_neg Bool.false_ne_true] at el ⊢
          obtain ⟨W5, x5, sh5⟩ := x4.wipe ws
          rw [hw] at x5
          have t15 := tr_shr t14 sh5
          exact ⟨W5, _, accd, accv, x5, ⟨(t'.trans t15).keep, (t'.trans t15).new, t'.newf⟩, t15.keep _ _ hH fun j hj => x'.dis j _ hj oD, ra.up (gr_tr t15 fun a h => .inl h), el⟩
        | true =>
          rw [if_pos rfl] at el ⊢
          obtain ⟨ds1, b5, ei, el⟩ := bind_ok el
          refine ⟨plus O [Dl], W4, b4, x4, ?_⟩
          rw [ei]
          intro W5 H5 J1 t5 x5 itok1
          by_cases hc1 : (ws1.all fun i => !isOwn b5 i) = true ∧ accd.length + ds1.length ≤ 10000000
          · rw [if_pos hc1] at el
            obtain ⟨acc1, b6, el1, el2⟩ := bind_ok el
            obtain ⟨W6, x6, sh6⟩ := x5.wipe ws1
            have t15 : Tr W' H' W6 nof H5 := tr_shr (t14.trans t5) sh6
            have hH5 : H5 Dl = some (.lst accv) := t15.keep _ _ hH fun j hj => x'.dis j _ hj oD
            have ra5 := ra.up (gr_tr t15 (O1 := plus O [Dl]) fun a h => .inl h)
            obtain ⟨Wf, w0, step⟩ := lcl_run (J := J1) hD oD x6 ⟨(t'.trans t15).keep, (t'.trans t15).new, t'.newf⟩ hH5 ra5 hc1.2 (gs_same sh6) itok1 el1
            refine ⟨Wf, w0, fun j k' H7 hW => ?_⟩
            rcases step j k' H7 hW with ⟨st, W8, accv8, x8, t8, _, hH8, ra8, _⟩ | go1
            · refine .inl ⟨st, ?_⟩
              obtain ⟨W9, x9, sh9⟩ := x8.wipe ws
              rw [wipe_wipe hv, hw] at x9
              exact ⟨W9, _, acc1, accv8, x9, tr_shr t8 sh9, hH8, ra8.up (gs_same sh9), el2⟩
            · exact .inr go1
          · rw [if_neg hc1] at el; cases el
    · have e : i = ds.length := by omega
      subst e
      rw [List.drop_length] at el
      unfold lcl2 at el
      cases el
      refine .inl ⟨stop (Nat.le_refl _), ?_⟩
      have t1' : Tr W H W' (· ∈ [Dl]) H' := ⟨(t1.trans t').keep, (t1.trans t').new, (t1.trans t').newf⟩
      have ow : ∀ i, i ∈ ws → W' i = [] := fun i h => by
        refine Classical.byContradiction fun hne => ?_
        obtain ⟨a, ha⟩ := List.exists_mem_of_ne_nil _ hne
        have h1 := x'.ownList ha
        unfold isOwn at h1
        by_cases hl : i < (L2.wipe σ ws).length
        · by_cases ex : ∃ y, bf[i]? = some (some y)
          · obtain ⟨y, ey⟩ := ex
            obtain ⟨v, ev, _⟩ := x'.at_ i y ey
            rw [wipe_in h (by rw [← wipe_length σ ws]; exact hl)] at ev
            cases ev
          · split at h1 <;> first
            | (rename_i ey; exact ex ⟨_, ey⟩)
            | cases h1
        · rw [List.getElem?_eq_none (by rw [x'.len]; omega)] at h1
          cases h1
      have lb : bf.length = σ.length := by rw [x'.len, wipe_length]
      refine q W' [Dl] (.ref Dl) H' t1' ⟨fun i mm e => ?_, fun i h => ?_, x'.inj, x'.dis, x'.al, by rw [restS_len, lb]⟩ (.tmp (.lst hH ra)) fun a h => by simp at h; rw [h]; exact nD
      · by_cases hi : i ∈ ws
        · have hil : i < bf.length := by
            have := (List.getElem?_eq_some_iff.mp e).1
            rw [restS_len] at this; exact this
          rw [restS_in s1 bf i ws hi hil] at e
          have e' := join_some (Option.some.inj e)
          obtain ⟨v, ev, r⟩ := x1.at_ i mm e'
          refine ⟨v, ev, ?_⟩
          rw [ow i hi]
          have := (List.all_eq_true.mp hno) i hi
          cases mm with
          | val d => exact .val (r.rdv.up hG0)
          | lst _ => simp [isOwn, e'] at this
          | obj _ _ _ => simp [isOwn, e'] at this
          | dct _ _ => simp [isOwn, e'] at this
          | bo _ _ _ _ _ _ => simp [isOwn, e'] at this
        · rw [restS_out s1 bf i ws hi] at e
          obtain ⟨v, ev, r⟩ := x'.at_ i mm e
          exact ⟨v, by rw [← wipe_out hi]; exact ev, r⟩
      · by_cases hi : i ∈ ws
        · exact ow i hi
        · exact x'.no i fun mm hm => h mm (by rw [restS_out s1 bf i ws hi]; exact hm)
  · rw [if_neg hc] at e2; cases e2
section
variable {X : Cx} {elt tg iter tg1 iter1 : Expr} {ifs ifs1 : List Expr} {scope : Scope} {own : List (Str × Nat)} {pos spos : Pos} {it it1 : IM} {p p1 : Pat} {c c1 : TM} {m : EM} {as ws1 : List Nat}
theorem se_lc2 (hc : X.calm = true) (hN : X.N.Nodup) (hi : SI X tg iter it) (ok : BlkOk X.N X.env.scope scope own) (hv : ∀ i ∈ ws1, i ∈ own.map (·.2))
    (hg : ∀ (s : Shared) (H : Hp) (C : Addr) (cl : List (Str × Addr)) (fp : List Addr), SG (X.blk s H scope (compEnvC scope cl C X.env) fp) tg p (own.map (·.2))) (ht : ∀ (s : Shared) (H : Hp) (C : Addr) (cl : List (Str × Addr)) (fp : List Addr), STs (X.blk s H scope (compEnvC scope cl C X.env) fp) ifs c)
    (hi1 : ∀ (s : Shared) (H : Hp) (C : Addr) (cl : List (Str × Addr)) (fp : List Addr), SI (X.blk s H scope (compEnvC scope cl C X.env) fp) tg1 iter1 it1)
    (hg1 : ∀ (s : Shared) (H : Hp) (C : Addr) (cl : List (Str × Addr)) (fp : List Addr), SG (X.blk s H scope (compEnvC scope cl C X.env) fp) tg1 p1 ws1) (ht1 : ∀ (s : Shared) (H : Hp) (C : Addr) (cl : List (Str × Addr)) (fp : List Addr), STs (X.blk s H scope (compEnvC scope cl C X.env) fp) ifs1 c1)
    (he : ∀ (s : Shared) (H : Hp) (C : Addr) (cl : List (Str × Addr)) (fp : List Addr), SE (X.blk s H scope (compEnvC scope cl C X.env) fp) elt m) (hs : ∀ x, foldedSetIterable iter X.env x = pure x := by intro _; rfl) (hs1 : ∀ env x, foldedSetIterable iter1 env x = pure x := by intro _ _; rfl) :
    SE X (.ListComp elt [⟨tg, iter, ifs, 0⟩, ⟨tg1, iter1, ifs1, 0⟩] scope pos) (E.lc2 it p c it1 p1 c1 m (own.map (·.2)) ws1) := (pe_lc2 hc hN hi ok hv hg ht hi1 hg1 ht1 he hs hs1).imp fun σ H Q q => lc2_imp hv q
theorem ss_lc2 {i : Nat} {y : Str} {py : Pos} (hc : X.calm = true) (hN : X.N.Nodup) (hsw : swapsWith (.ListComp elt [⟨tg, iter, ifs, 0⟩, ⟨tg1, iter1, ifs1, 0⟩] scope pos) (some (.Name y py)) spos.line X.env = pure true) (hi : SI X tg iter it) (ok : BlkOk X.N X.env.scope scope own) (hv : ∀ i ∈ ws1, i ∈ own.map (·.2))
    (hg : ∀ (s : Shared) (H : Hp) (C : Addr) (cl : List (Str × Addr)) (fp : List Addr), SG (X.blk s H scope (compEnvC scope cl C X.env) fp) tg p (own.map (·.2))) (ht : ∀ (s : Shared) (H : Hp) (C : Addr) (cl : List (Str × Addr)) (fp : List Addr), STs (X.blk s H scope (compEnvC scope cl C X.env) fp) ifs c)
    (hi1 : ∀ (s : Shared) (H : Hp) (C : Addr) (cl : List (Str × Addr)) (fp : List Addr), SI (X.blk s H scope (compEnvC scope cl C X.env) fp) tg1 iter1 it1)
    (hg1 : ∀ (s : Shared) (H : Hp) (C : Addr) (cl : List (Str × Addr)) (fp : List Addr), SG (X.blk s H scope (compEnvC scope cl C X.env) fp) tg1 p1 ws1) (ht1 : ∀ (s : Shared) (H : Hp) (C : Addr) (cl : List (Str × Addr)) (fp : List Addr), STs (X.blk s H scope (compEnvC scope cl C X.env) fp) ifs1 c1)
    (he : ∀ (s : Shared) (H : Hp) (C : Addr) (cl : List (Str × Addr)) (fp : List Addr), SE (X.blk s H scope (compEnvC scope cl C X.env) fp) elt m) (hy : X.N[i]? = some y := by rfl) (hyl : X.env.scope.names.lookup y = some .local := by rfl) (ha : i ∈ as := by decide) (hs : ∀ x, foldedSetIterable iter X.env x = pure x := by intro _; rfl) (hs1 : ∀ env x, foldedSetIterable iter1 env x = pure x := by intro _ _; rfl) :
    SS X (.Assign [.Name y py] (.ListComp elt [⟨tg, iter, ifs, 0⟩, ⟨tg1, iter1, ifs1, 0⟩] scope pos) spos) (S.asg i (E.lc2 it p c it1 p1 c1 m (own.map (·.2)) ws1)) as := fun Wx tk => (ps_setLc2 hc hN hy hyl hsw hi ok hv hg ht hi1 hg1 ht1 he hs hs1).imp fun D σ H q => asg_any ha (fun Q q => lc2_imp hv q) q
end
@[simp] theorem lcl_nil {p : Pat} {c : TM} {m : EM} {ws : List Nat} {acc : List DV} {b : Sl} : lcl p c m ws [] acc b = .ok acc b := rfl
def Res.lc2 (r : Res (List DV)) (p : Pat) (c : TM) (it1 : IM) (p1 : Pat) (c1 : TM) (m : EM) (ws ws1 : List Nat) : Res Op := r.bind fun ds s1 => if (ws.all fun i => !isOwn s1 i) = true ∧ ds.length ≤ 10000000 then lcE s1 ws (lcl2 p c it1 p1 c1 m ws ws1 ds [] (wipeS s1 ws)) else .stuck
@[simp] theorem Res.lc2_ok {ds : List DV} {s1 : Sl} {p p1 : Pat} {c c1 : TM} {it1 : IM} {m : EM} {ws ws1 : List Nat} : (Res.ok ds s1).lc2 p c it1 p1 c1 m ws ws1 = if (ws.all fun i => !isOwn s1 i) = true ∧ ds.length ≤ 10000000 then lcE s1 ws (lcl2 p c it1 p1 c1 m ws ws1 ds [] (wipeS s1 ws)) else .stuck := rfl
@[simp] theorem E.lc2_eq {it it1 : IM} {p p1 : Pat} {c c1 : TM} {m : EM} {ws ws1 : List Nat} {sl : Sl} : E.lc2 it p c it1 p1 c1 m ws ws1 sl = (it sl).lc2 p c it1 p1 c1 m ws ws1 := rfl
end Sy
namespace Sy
open PySem PySem.Spec PyProof.Rows L2
/-! ### chains, texts -/
def chE (g : DV → DV → Option MV) (p : Op) (c : EM) (sl : Sl) : Option MV → Res Op
  | some (.val (.bl true)) => (c sl).bin2 g p
  | some (.val (.bl false)) => .ok (.tmp (.val (.bl false))) sl
  | _ => .stuck
@[simp] theorem chE_t {g : DV → DV → Option MV} {p : Op} {c : EM} {sl : Sl} : chE g p c sl (some (.val (.bl true))) = (c sl).bin2 g p := rfl
@[simp] theorem chE_f {g : DV → DV → Option MV} {p : Op} {c : EM} {sl : Sl} : chE g p c sl (some (.val (.bl false))) = .ok (.tmp (.val (.bl false))) sl := rfl
def ch2 (f g : DV → DV → Option MV) (p : Op) (c : EM) (sl : Sl) : Option DV → Option DV → Res Op
  | some d, some e => chE g p c sl (f d e)
  | _, _ => .stuck
@[simp] theorem ch2_s {f g : DV → DV → Option MV} {p : Op} {c : EM} {sl : Sl} {d e : DV} : ch2 f g p c sl (some d) (some e) = chE g p c sl (f d e) := rfl
def Res.ch1 (r : Res Op) (f g : DV → DV → Option MV) (b c : EM) : Res Op := r.bind fun o sl => (b sl).bind fun p sl => ch2 f g p c sl (o.view sl) (p.view sl)
def Res.chb (r : Res Op) (f g : DV → DV → Option MV) (o : Op) (c : EM) : Res Op := r.bind fun p sl => ch2 f g p c sl (o.view sl) (p.view sl)
@[simp] theorem Res.ch1_ok {o : Op} {sl : Sl} {f g : DV → DV → Option MV} {b c : EM} : (Res.ok o sl).ch1 f g b c = (b sl).chb f g o c := rfl
@[simp] theorem Res.chb_ok {o p : Op} {sl : Sl} {f g : DV → DV → Option MV} {c : EM} : (Res.ok p sl).chb f g o c = ch2 f g p c sl (o.view sl) (p.view sl) := rfl
@[simp] theorem E.chain_eq {f g : DV → DV → Option MV} {a b c : EM} {sl : Sl} : E.chain f g a b c sl = (a sl).ch1 f g b c := by
  unfold E.chain Res.ch1 ch2 chE Res.bin2 on2
  all_goals rfl
theorem eqD_str {a b : Str} (ha : PyData.strOk a = true) (hb : PyData.strOk b = true) : eqD (.str a) (.str b) = bl (decide (a = b)) := by
  rw [eqD_of (n := 0) (d := .str a) (e := .str b) (by omega) (by rw [shp]; exact ha) (by rw [shp]; exact hb), toP, toP, PyData.eqv]
  congr 1
  all_goals (by_cases h : a = b <;> simp [h])
theorem neD_str {a b : Str} (ha : PyData.strOk a = true) (hb : PyData.strOk b = true) : neD (.str a) (.str b) = bl (!decide (a = b)) := by
  rw [neD_of (n := 0) (d := .str a) (e := .str b) (by omega) (by rw [shp]; exact ha) (by rw [shp]; exact hb), toP, toP, PyData.eqv]
  congr 2
  all_goals (by_cases h : a = b <;> simp [h])
end Sy
namespace Sy
open PySem PySem.Spec PyProof.Rows L2
@[simp] theorem atI_c0 {α : Type} {a : α} {l : List α} : atI (a :: l) 0 = some a := by
  have := atI_n (xs := a :: l) (n := 0)
  simpa using this
@[simp] theorem atI_c1 {α : Type} {a b : α} {l : List α} : atI (a :: b :: l) 1 = some b := by
  have := atI_n (xs := a :: b :: l) (n := 1)
  simpa using this
@[simp] theorem atI_c2 {α : Type} {a b c : α} {l : List α} : atI (a :: b :: c :: l) 2 = some c := by
  have := atI_n (xs := a :: b :: c :: l) (n := 2)
  simpa using this
/-! ### texts and blocks that are drawn -/
theorem lit_ab : (("ab" : String) : Str) = ⟨#[97, 98]⟩ := by decide +kernel
theorem lit_aabb : (("aabb " : String) : Str) = ⟨#[97, 97, 98, 98, 32]⟩ := by decide +kernel
theorem lit_sp : ((" " : String) : Str) = ⟨#[32]⟩ := by decide +kernel
theorem lit_a : (("a" : String) : Str) = ⟨#[97]⟩ := by decide +kernel
theorem lit_head : (("head" : String) : Str) = ⟨#[104, 101, 97, 100]⟩ := by decide +kernel
theorem lit_par : (("par" : String) : Str) = ⟨#[112, 97, 114]⟩ := by decide +kernel
theorem lit_item : (("item" : String) : Str) = ⟨#[105, 116, 101, 109]⟩ := by decide +kernel
theorem lit_note : (("note" : String) : Str) = ⟨#[110, 111, 116, 101]⟩ := by decide +kernel
theorem lit_break : (("break" : String) : Str) = ⟨#[98, 114, 101, 97, 107]⟩ := by decide +kernel
theorem strOk_mk {cs : List Nat} (h : ∀ c ∈ cs, c < 0x110000) : PyData.strOk ⟨cs.toArray⟩ = true := by
  unfold PyData.strOk
  rw [Array.all_eq_true']
  intro c hc
  exact decide_eq_true (h c (by simpa using hc))
theorem strOk_mem {x : Str} (h : PyData.strOk x = true) : ∀ c ∈ x.cps.toList, c < 0x110000 := by
  unfold PyData.strOk at h
  rw [Array.all_eq_true'] at h
  intro c hc
  exact of_decide_eq_true (h c (by simpa using hc))
theorem strOk_one {c : Nat} (h : c < 0x110000) : PyData.strOk ⟨#[c]⟩ = true := strOk_mk (cs := [c]) (by simpa using h)
theorem app_cps {a b : Str} : (a ++ b).cps.toList = a.cps.toList ++ b.cps.toList := by
  show (a.cps ++ b.cps).toList = _
  simp
theorem app_len {a b : Str} : (a ++ b).length = a.length + b.length := by
  show (a.cps ++ b.cps).size = a.cps.size + b.cps.size
  simp
theorem strOk_iff {x : Str} : PyData.strOk x = true ↔ ∀ c ∈ x.cps.toList, c < 0x110000 := ⟨strOk_mem, fun h => by
  have := strOk_mk h
  simpa using this⟩
theorem strOk_app {a b : Str} (ha : PyData.strOk a = true) (hb : PyData.strOk b = true) : PyData.strOk (a ++ b) = true := by
  rw [strOk_iff, app_cps]
  intro c hc
  rcases List.mem_append.mp hc with h | h
  · exact strOk_mem ha c h
  · exact strOk_mem hb c h
theorem len_cps {x : Str} : x.cps.toList.length = x.length := by
  show x.cps.toList.length = x.cps.size
  simp
theorem str_at {x : Str} (hx : PyData.strOk x = true) {i : Int} (h0 : 0 ≤ i) (h1 : i < x.length) : ∃ c, atI x.cps.toList i = some c ∧ PyData.strOk ⟨#[c]⟩ = true := by
  have hl : i.toNat < x.cps.toList.length := by rw [len_cps]; omega
  refine ⟨_, atI_at h0 (List.getElem?_eq_getElem hl), strOk_one (strOk_mem hx _ (List.getElem_mem hl))⟩
theorem one_len {c : Nat} : (⟨#[c]⟩ : Str).length = 1 := rfl
noncomputable def l_text1_1 : SM := (S.seq (S.asg 4 (E.bin ixD (E.c (.str "aabb ")) (E.call 2 r_take1 (A.cons (E.var 0) (A.cons (E.c (.int 5)) A.nil)))))
    (S.ife (T.or (T.val (E.bin neD (E.var 4) (E.c (.str " ")))) (T.val (E.bin neD (E.bin ixD (E.var 2) (E.bin subD (E.app lenD (A.cons (E.var 2) A.nil)) (E.c (.int 1)))) (E.c (.str " "))))) (S.asg 2 (E.bin addD (E.var 2) (E.var 4))) S.nil))
noncomputable def b_text1 : SM := (S.seq (S.asg 2 (E.bin ixD (E.c (.str "ab")) (E.call 2 r_take1 (A.cons (E.var 0) (A.cons (E.c (.int 2)) A.nil)))))
    (S.seq (S.forr (I.rng1 (A.cons (E.call 2 r_take1 (A.cons (E.var 0) (A.cons (E.var 1) A.nil))) A.nil)) (.nm 3) l_text1_1)
    (S.seq (S.ife (T.val (E.bin eqD (E.bin ixD (E.var 2) (E.bin subD (E.app lenD (A.cons (E.var 2) A.nil)) (E.c (.int 1)))) (E.c (.str " ")))) (S.asg 2 (E.bin addD (E.var 2) (E.c (.str "a")))) S.nil)
    (S.ret 2 (E.var 2)))))
noncomputable def r_text1 : FM := fn 2 3 [2, 3, 4] b_text1
theorem text1_turn (m : MV) (x : Str) (ys : List Int) (v3 v4 : Option MV) (hx : PyData.strOk x = true) (h1 : 1 ≤ x.length) (h2 : x.length ≤ 1000) :
    ∃ (x' : Str) (ys' : List Int) (w4 : Option MV), l_text1_1 [some (IL ys), some m, some (.val (.str x)), v3, v4] = .nx [some (IL ys'), some m, some (.val (.str x')), v3, w4] ∧ PyData.strOk x' = true ∧ 1 ≤ x'.length ∧ x'.length ≤ x.length + 1 := by
  obtain ⟨v, ys', v0, v1, e⟩ := take1 (xs := ys) (b := 5) (by omega)
  have hl : (⟨#[97, 97, 98, 98, 32]⟩ : Str).length ≤ sizeLine := le_size (by decide)
  obtain ⟨c, hc, c2⟩ := str_at (x := ⟨#[97, 97, 98, 98, 32]⟩) (strOk_mk (cs := [97, 97, 98, 98, 32]) (by simp)) v0 (by rw [show (⟨#[97, 97, 98, 98, 32]⟩ : Str).length = 5 from rfl]; exact v1)
  have hs : PyData.strOk ⟨#[32]⟩ = true := strOk_one (by omega)
  obtain ⟨c', hc', c3⟩ := str_at (i := (x.length : Int) - 1) hx (by omega) (by omega)
  have hq : x.length ≤ sizeLine := le_size (by omega)
  have hq2 : x.length + 1 ≤ sizeLine := le_size (by omega)
  have n1 := neD_str c2 hs
  have n2 := neD_str c3 hs
  simp at hc hl
  by_cases hcc : (⟨#[c]⟩ : Str) = ⟨#[32]⟩
  · rw [decide_eq_true hcc] at n1
    by_cases hcd : (⟨#[c']⟩ : Str) = ⟨#[32]⟩
    · rw [decide_eq_true hcd] at n2
      refine ⟨x, ys', some (.val (.str ⟨#[c]⟩)), ?_, hx, h1, by omega⟩
      simp [l_text1_1, lit_aabb, lit_sp, e, hl, hc, n1, n2, hq, hc']
    · rw [decide_eq_false hcd] at n2
      refine ⟨x ++ ⟨#[c]⟩, ys', some (.val (.str ⟨#[c]⟩)), ?_, strOk_app hx c2, by rw [app_len]; omega, by rw [app_len, one_len]; omega⟩
      simp [l_text1_1, lit_aabb, lit_sp, e, hl, hc, n1, n2, hq, hc', one_len, hq2]
  · rw [decide_eq_false hcc] at n1
    refine ⟨x ++ ⟨#[c]⟩, ys', some (.val (.str ⟨#[c]⟩)), ?_, strOk_app hx c2, by rw [app_len]; omega, by rw [app_len, one_len]; omega⟩
    simp [l_text1_1, lit_aabb, lit_sp, e, hl, hc, n1, n2, hq, hc', one_len, hq2]
theorem text1_ok (xs : List Int) (m : Int) (h0 : 0 < m) (h1 : m ≤ 100) : ∃ (x : Str) (ys : List Int), PyData.strOk x = true ∧ 1 ≤ x.length ∧ x.length ≤ 110 ∧ r_text1 [IL xs, .val (.int m)] = .ok (.val (.str x)) [IL ys, .val (.int m)] := by
  obtain ⟨v, xs1, v0, v1, e1⟩ := take1 (xs := xs) (b := 2) (by omega)
  obtain ⟨u, xs2, u0, u1, e2⟩ := take1 (xs := xs1) h0
  obtain ⟨c, hc, c2⟩ := str_at (x := ⟨#[97, 98]⟩) (strOk_mk (cs := [97, 98]) (by simp)) v0 (by rw [show (⟨#[97, 98]⟩ : Str).length = 2 from rfl]; exact v1)
  have hl : (⟨#[97, 98]⟩ : Str).length ≤ sizeLine := le_size (by decide)
  simp at hc hl
  obtain ⟨s, e3, x, ys, w3, w4, hx, hx1, hx2, rfl⟩ := loop_inv (p := .nm 3) (b := l_text1_1) (fun k s => ∃ (x : Str) (ys : List Int) (w3 w4 : Option MV), PyData.strOk x = true ∧ 1 ≤ x.length ∧ x.length ≤ k + 1 ∧ s = [some (IL ys), some (.val (.int m)), some (.val (.str x)), w3, w4]) (ups 0 u) 0 [some (IL xs2), some (.val (.int m)), some (.val (.str ⟨#[c]⟩)), none, none] ⟨⟨#[c]⟩, xs2, none, none, c2, by rw [one_len]; omega, by rw [one_len]; omega, rfl⟩ (by
    rintro i d s hd ⟨x, ys, w3, w4, hx, hx1, hx2, rfl⟩
    obtain ⟨rfl, hi⟩ := ups_get hd
    obtain ⟨x', ys', w4', e, g1, g2, g3⟩ := text1_turn (.val (.int m)) x ys (some (.val (.int (0 + i)))) w4 hx hx1 (by omega)
    exact ⟨_, _, by simp, .inl e, x', ys', _, _, g1, g2, by omega, rfl⟩)
  rw [ups_len] at hx2
  have hs : PyData.strOk ⟨#[32]⟩ = true := strOk_one (by omega)
  have ha : PyData.strOk ⟨#[97]⟩ = true := strOk_one (by omega)
  obtain ⟨c', hc', c3⟩ := str_at (i := (x.length : Int) - 1) hx (by omega) (by omega)
  have hq : x.length ≤ sizeLine := le_size (by omega)
  have hq2 : x.length + 1 ≤ sizeLine := le_size (by omega)
  have n2 := eqD_str c3 hs
  have g1 : u ≤ 4000000000 := by omega
  by_cases hcd : (⟨#[c']⟩ : Str) = ⟨#[32]⟩
  · rw [decide_eq_true hcd] at n2
    refine ⟨x ++ ⟨#[97]⟩, ys, strOk_app hx ha, by rw [app_len]; omega, by rw [app_len, one_len]; omega, ?_⟩
    simp [r_text1, b_text1, lit_ab, lit_sp, lit_a, e1, e2, hc, hl, e3, u0, g1, hc', n2, hq, hq2, one_len]
  · rw [decide_eq_false hcd] at n2
    refine ⟨x, ys, hx, hx1, by omega, ?_⟩
    simp [r_text1, b_text1, lit_ab, lit_sp, lit_a, e1, e2, hc, hl, e3, u0, g1, hc', n2, hq, hq2, one_len]
noncomputable def b_block1 : SM := (S.seq (S.asg 2 (E.call 2 r_take1 (A.cons (E.var 0) (A.cons (E.c (.int 8)) A.nil))))
    (S.seq (S.asg 3 (E.call 2 r_text1 (A.cons (E.var 0) (A.cons (E.var 1) A.nil))))
    (S.seq (S.ife (T.val (E.bin ltD (E.var 2) (E.c (.int 2)))) (S.ret 2 (E.tup (A.cons (E.c (.str "head")) (A.cons (E.var 3) A.nil)))) S.nil)
    (S.seq (S.ife (T.val (E.bin ltD (E.var 2) (E.c (.int 5)))) (S.ret 2 (E.tup (A.cons (E.c (.str "par")) (A.cons (E.var 3) A.nil)))) S.nil)
    (S.seq (S.ife (T.val (E.bin eqD (E.var 2) (E.c (.int 5)))) (S.ret 2 (E.tup (A.cons (E.c (.str "item")) (A.cons (E.bin addD (E.c (.int 1)) (E.call 2 r_take1 (A.cons (E.var 0) (A.cons (E.c (.int 3)) A.nil)))) (A.cons (E.var 3) A.nil))))) S.nil)
    (S.seq (S.ife (T.val (E.bin eqD (E.var 2) (E.c (.int 6)))) (S.ret 2 (E.tup (A.cons (E.c (.str "note")) (A.cons (E.bin ixD (E.lst (A.cons (E.bin addD (E.c (.int 1)) (E.call 2 r_take1 (A.cons (E.var 0) (A.cons (E.c (.int 99)) A.nil)))) (A.cons (E.c (.int 7)) A.nil))) (E.call 2 r_take1 (A.cons (E.var 0) (A.cons (E.c (.int 2)) A.nil)))) (A.cons (E.var 3) A.nil))))) S.nil)
    (S.ret 2 (E.tup (A.cons (E.c (.str "break")) A.nil)))))))))
noncomputable def r_block1 : FM := fn 2 2 [2, 3] b_block1
/-- a block as data -/
inductive Blk where
  | head (x : Str) | par (x : Str) | item (i : Int) (x : Str) | note (i : Int) (x : Str) | brk
def Blk.d : Blk → DV
  | .head x => .tup [.str "head", .str x]
  | .par x => .tup [.str "par", .str x]
  | .item i x => .tup [.str "item", .int i, .str x]
  | .note i x => .tup [.str "note", .int i, .str x]
  | .brk => .tup [.str "break"]
def Blk.kind : Blk → Str
  | .head _ => "head"
  | .par _ => "par"
  | .item _ _ => "item"
  | .note _ _ => "note"
  | .brk => "break"
def txOk (x : Str) : Prop := PyData.strOk x = true ∧ 1 ≤ x.length ∧ x.length ≤ 110
def Blk.ok : Blk → Prop
  | .head x => txOk x
  | .par x => txOk x
  | .item i x => txOk x ∧ 1 ≤ i ∧ i ≤ 3
  | .note i x => txOk x ∧ 1 ≤ i ∧ i ≤ 99
  | .brk => True
theorem block1_ok (xs : List Int) (m : Int) (h0 : 0 < m) (h1 : m ≤ 100) : ∃ (b : Blk) (ys : List Int), b.ok ∧ r_block1 [IL xs, .val (.int m)] = .ok (.val b.d) [IL ys, .val (.int m)] := by
  obtain ⟨v, xs1, v0, v1, e1⟩ := take1 (xs := xs) (b := 8) (by omega)
  obtain ⟨x, xs2, hx, hx1, hx2, e2⟩ := text1_ok xs1 m h0 h1
  by_cases c1 : v < 2
  · refine ⟨.head x, xs2, ⟨hx, hx1, hx2⟩, ?_⟩
    simp [r_block1, b_block1, e1, e2, c1, Blk.d]
  by_cases c2 : v < 5
  · refine ⟨.par x, xs2, ⟨hx, hx1, hx2⟩, ?_⟩
    simp [r_block1, b_block1, e1, e2, c1, c2, Blk.d]
  by_cases c3 : v = 5
  · obtain ⟨u, xs3, u0, u1, e3⟩ := take1 (xs := xs2) (b := 3) (by omega)
    refine ⟨.item (1 + u) x, xs3, ⟨⟨hx, hx1, hx2⟩, by omega, by omega⟩, ?_⟩
    simp [r_block1, b_block1, e1, e2, e3, c3, Blk.d]
  by_cases c4 : v = 6
  · obtain ⟨u, xs3, u0, u1, e3⟩ := take1 (xs := xs2) (b := 99) (by omega)
    obtain ⟨w, xs4, w0, w1, e4⟩ := take1 (xs := xs3) (b := 2) (by omega)
    have hw : w = 0 ∨ w = 1 := by omega
    rcases hw with rfl | rfl
    · refine ⟨.note (1 + u) x, xs4, ⟨⟨hx, hx1, hx2⟩, by omega, by omega⟩, ?_⟩
      have h := atI_n (xs := [DV.int (1 + u), DV.int 7]) (n := 0)
      simp at h
      simp [r_block1, b_block1, e1, e2, e3, e4, c4, Blk.d, h]
    · refine ⟨.note 7 x, xs4, ⟨⟨hx, hx1, hx2⟩, by omega, by omega⟩, ?_⟩
      have h := atI_n (xs := [DV.int (1 + u), DV.int 7]) (n := 1)
      simp at h
      simp [r_block1, b_block1, e1, e2, e3, e4, c4, Blk.d, h]
  · refine ⟨.brk, xs2, trivial, ?_⟩
    simp [r_block1, b_block1, e1, e2, c1, c2, c3, c4, Blk.d]
theorem strOk_kind (b : Blk) : PyData.strOk b.kind = true := by
  cases b <;> simp only [Blk.kind, lit_head, lit_par, lit_item, lit_note, lit_break] <;> exact strOk_mk (by simp)
theorem Blk.at0 (b : Blk) : ixD b.d (.int 0) = some (.val (.str b.kind)) := by
  cases b <;> simp [Blk.d, Blk.kind]
theorem shp_blk (b : Blk) (h : b.ok) : shp 1 b.d = true := by
  cases b <;> simp only [Blk.ok, txOk] at h <;> simp only [Blk.d] <;> refine shp_tup (by simp) ?_ <;> simp [shp, h]
  all_goals first | exact strOk_kind (.head default) | exact strOk_kind (.par default) | exact strOk_kind (.item 0 default) | exact strOk_kind (.note 0 default) | exact strOk_kind .brk
end Sy
namespace Sy
open PySem PySem.Spec PyProof.Rows L2
/-! ### attributes -/
def fget {α : Type} (f : Str) : List Str → List α → Option α
  | n :: ns, d :: ds => if n = f then some d else fget f ns ds
  | _, _ => none
def fput {α : Type} (f : Str) (d : α) : List Str → List α → List Str × List α
  | n :: ns, e :: es => if n = f then (n :: ns, d :: es) else (n :: (fput f d ns es).1, e :: (fput f d ns es).2)
  | _, _ => ([f], [d])
theorem fget_lookup {f : Str} : ∀ (ns : List Str) (vs : List V), (ns.zip vs).lookup f = fget f ns vs
  | [], _ => rfl
  | _ :: _, [] => rfl
  | n :: ns, v :: vs => by
    rw [List.zip_cons_cons, fget]
    by_cases h : n = f
    · subst h
      simp [List.lookup]
    · have e : (f == n) = false := by simpa using fun z => h z.symm
      rw [if_neg h, List.lookup, e]
      exact fget_lookup ns vs
theorem fget_rd {K : PySem.W.Frag} {G : Hp} {f : Str} {d : DV} : ∀ {ns : List Str} {ds : List DV} {vs : List V}, RDs K G ds vs → fget f ns ds = some d → ∃ v, fget f ns vs = some v ∧ RD K G d v
  | [], _, _, _, h => by simp [fget] at h
  | _ :: _, [], _, _, h => by simp [fget] at h
  | n :: ns, e :: ds, _, r, h => by
    cases r with
    | @cons _ v _ vs r1 r2 =>
      rw [fget] at h ⊢
      by_cases hn : n = f
      · rw [if_pos hn] at h ⊢
        cases h
        exact ⟨v, rfl, r1⟩
      · rw [if_neg hn] at h ⊢
        exact fget_rd r2 h
theorem fput_zip {f : Str} {v : V} : ∀ {ns : List Str} {vs : List V}, ns.length = vs.length → putF f v (ns.zip vs) = (fput f v ns vs).1.zip (fput f v ns vs).2 ∧ (fput f v ns vs).1.length = (fput f v ns vs).2.length
  | [], [], _ => ⟨rfl, rfl⟩
  | n :: ns, x :: vs, h => by
    obtain ⟨e1, e2⟩ := fput_zip (f := f) (v := v) (ns := ns) (vs := vs) (by simpa using h)
    rw [List.zip_cons_cons, fput]
    show (if n = f then (n, v) :: ns.zip vs else (n, x) :: putF f v (ns.zip vs)) = _ ∧ _
    by_cases hn : n = f
    · rw [if_pos hn, if_pos hn]
      exact ⟨rfl, by simpa using h⟩
    · rw [if_neg hn, if_neg hn, e1]
      exact ⟨rfl, by simpa using e2⟩
theorem fput_rd {K : PySem.W.Frag} {G : Hp} {f : Str} {d : DV} {v : V} (r : RD K G d v) : ∀ {ns : List Str} {ds : List DV} {vs : List V}, ns.length = vs.length → RDs K G ds vs → (fput f d ns ds).1 = (fput f v ns vs).1 ∧ RDs K G (fput f d ns ds).2 (fput f v ns vs).2
  | [], _, _, h, .nil => ⟨rfl, .cons r .nil⟩
  | n :: ns, _, _, h, .cons r1 r2 => by
    obtain ⟨e1, e2⟩ := fput_rd (f := f) r (ns := ns) (by simpa using h) r2
    rw [fput, fput]
    by_cases hn : n = f
    · rw [if_pos hn, if_pos hn]
      exact ⟨rfl, .cons r r2⟩
    · rw [if_neg hn, if_neg hn]
      exact ⟨by simp [e1], .cons r1 e2⟩
theorem strInj {a b : String} : (Str.ofString a = Str.ofString b) ↔ a = b := by
  constructor
  · intro h
    rw [Str.ofString_eq_toList, Str.ofString_eq_toList] at h
    have h2 := congrArg Str.cps h
    simp only at h2
    have h3 : a.toList.map Char.toNat = b.toList.map Char.toNat := by simpa using h2
    have inj : ∀ c d : Char, c.toNat = d.toNat → c = d := fun c d e => by
      have : c.val = d.val := UInt32.toNat_inj.mp e
      exact Char.ext this
    have h4 : a.toList = b.toList := by
      have : ∀ (l m : List Char), l.map Char.toNat = m.map Char.toNat → l = m := by
        intro l
        induction l with
        | nil => intro m e; cases m with
          | nil => rfl
          | cons _ _ => cases e
        | cons c l ih => intro m e; cases m with
          | nil => cases e
          | cons d m =>
            simp only [List.map_cons, List.cons.injEq] at e
            rw [inj c d e.1, ih m e.2]
      exact this _ _ h3
    exact String.ext (by simpa using h4)
  · intro h; rw [h]
def fldV : DV → Option MV
  | .dct _ _ => none
  | d => some (.val d)
theorem fldV_ok {d : DV} {m : MV} (h : fldV d = some m) : m = .val d ∧ ∀ ks es, d ≠ .dct ks es := by
  cases d <;> cases h <;> exact ⟨rfl, fun _ _ z => nomatch z⟩
theorem fget_rdo {K : PySem.W.Frag} {G : Hp} {f : Str} {d : DV} (hd : ∀ ks es, d ≠ .dct ks es) : ∀ {ns : List Str} {ds : List DV} {vs : List V}, RDos K G ds vs → fget f ns ds = some d → ∃ v, fget f ns vs = some v ∧ RD K G d v
  | [], _, _, r, h => by cases r <;> cases h
  | n :: ns, [], _, r, h => by cases h
  | n :: ns, e :: ds, _, r, h => by
    cases r with
    | cons q r =>
      unfold fget at h ⊢
      by_cases hn : n = f
      · rw [if_pos hn] at h ⊢
        cases h
        exact ⟨_, rfl, q⟩
      · rw [if_neg hn] at h ⊢
        exact fget_rdo hd r h
    | dct r =>
      unfold fget at h ⊢
      by_cases hn : n = f
      · rw [if_pos hn] at h
        cases h
        exact absurd rfl (hd _ _)
      · rw [if_neg hn] at h ⊢
        exact fget_rdo hd r h
def fldD (C : Addr) (f : Str) : DV → Option MV
  | .obj C' ns ds => if C' = C then (fget f ns ds).bind fldV else none
  | _ => none
def rFld (K : PySem.W.Frag) (f : Str) : V → Hp → VK → Prop := fun x H1 Q => ∃ a C dx fs v, x = .ref a ∧ H1 a = some (.ins C dx fs) ∧ Cls K C ∧ NoAttr K C f ∧ fs.lookup f = some v ∧ Q v H1
theorem b_fld {K : PySem.W.Frag} {C : Addr} {f : Str} (cl : Cls K C) (na : NoAttr K C f) : B1 K (rFld K f) (fldD C f) := fun P H x d m Q h al rx q => by
  unfold fldD at h
  split at h
  · rename_i C' ns ds
    by_cases hc : C' = C
    · subst hc
      rw [if_pos rfl] at h
      cases hg : fget f ns ds with
      | none => rw [hg] at h; cases h
      | some e =>
        rw [hg] at h
        obtain ⟨rfl, hnd⟩ := fldV_ok (show fldV e = some m from h)
        obtain ⟨a, dx, vs, rfl, h1, l, r⟩ := rw_obj hid_same rx
        obtain ⟨v, ev, rv⟩ := fget_rdo hnd r hg
        refine ⟨a, C', dx, ns.zip vs, v, rfl, h1, cl, na, by rw [fget_lookup, ev], new_val q rv⟩
    · rw [if_neg hc] at h; cases h
  · cases h
section
variable {X : Cx} {as : List Nat} {pos pos' p apos : Pos} {e o : Expr} {es : List Expr} {ma : EM}
theorem se_fld {C : Addr} {f : Str} (cl : Cls X.K C) (na : NoAttr X.K C f) (h : SE X e ma) (hb : attributeBase e f X.env (eval e X.env) = eval e X.env := by rfl) : SE X (.Attribute e f pos) (E.un (fldD C f) ma) :=
  (pe_fld h hb).imp fun σ H Q q => un_imp (b_fld cl na) q
/-- self.f = e -/
def S.setf (C : Addr) (f : Str) (i : Nat) (m : EM) : SM := fun sl => (m sl).s fun o sl => match settle1 o sl with
  | some (d, sl) => (match sl[i]? with
    | some (some (.obj C' ns ds)) => if C' = C ∧ ns.length < 900 then .nx (sl.set i (some (.obj C (fput f d ns ds).1 (fput f d ns ds).2))) else .stuck
    | _ => .stuck)
  | none => .stuck
theorem setf_imp {K : PySem.W.Frag} {Wx : WX} {C : Addr} {f : Str} {i : Nat} {D : Ends} {σ : L2.St} {H : Hp} (cl : Cls K C) (na : NoAttr K C f) (q : tS K Wx (S.setf C f i ma) as D σ H) : sFld K (tVar i) (tE K ma) f D σ H := by
  obtain ⟨O, W, sl, x, q⟩ := q
  obtain ⟨o, s1, e1, q⟩ := post_ok q
  refine tE_mk x e1 fun W1 f1 v1 H1 t1 x1 r1 n1 => ?_
  cases es : settle1 o s1 with
  | none => rw [es] at q; exact q.elim
  | some pr =>
    obtain ⟨d, s2⟩ := pr
    rw [es] at q
    simp only at q
    obtain ⟨W2, x2, rd, sh⟩ := settle1_ok x1 r1 n1 es
    cases e2 : s2[i]? with
    | none => rw [e2] at q; exact q.elim
    | some y =>
      cases y with
      | none => rw [e2] at q; exact q.elim
      | some m =>
        cases m with
        | val _ => rw [e2] at q; exact q.elim
        | lst _ => rw [e2] at q; exact q.elim
        | dct _ _ => rw [e2] at q; exact q.elim
        | bo _ _ _ _ _ _ => rw [e2] at q; exact q.elim
        | obj C' ns ds =>
          rw [e2] at q
          simp only at q
          by_cases hc : C' = C ∧ ns.length < 900
          · rw [if_pos hc] at q
            obtain ⟨rfl, hl⟩ := hc
            obtain ⟨v, ev, rm⟩ := x2.get e2
            generalize hw : W2 i = w at rm
            cases rm with
            | @obj a dx _ _ vs _ h l r =>
              refine ⟨.ref a, ev, a, C', dx, ns.zip vs, rfl, h, cl, na, by rw [List.length_zip]; omega, ?_⟩
              obtain ⟨z1, z2⟩ := fput_zip (f := f) (v := v1) l
              obtain ⟨z3, z4⟩ := fput_rd (f := f) rd l r
              rw [z1]
              obtain ⟨x3, t3⟩ := x2.mutO (ns' := (fput f v1 ns vs).1) (es := (fput f d ns ds).2) (vs := (fput f v1 ns vs).2) e2 ev h z2 z4
              rw [z3] at q
              exact q W2 σ _ ((tr_shr t1.noL sh).trans t3) x3 Agr.refl
          · rw [if_neg hc] at q; exact q.elim
theorem ss_setf {C : Addr} {f x : Str} (i : Nat) (cl : Cls X.K C) (na : NoAttr X.K C f) (he : SE X e ma) (hN : X.N[i]? = some x := by rfl) (hv : Vis X.env.scope x := by first | exact Or.inl rfl | exact Or.inr (Or.inl rfl) | exact Or.inr (Or.inr rfl)) (hd : (x == ("__debug__" : Str)) = false := by decide)
    (hcd : (x == ("__classdict__" : Str)) = false := by decide) (hs : swapsWith e (some (.Attribute (.Name x p) f pos')) pos.line X.env = pure false := by rfl) : SS X (.Assign [.Attribute (.Name x p) f pos'] e pos) (S.setf C f i ma) as := fun Wx tk => (ps_fld (pv i hN hv hd hcd) he hs).imp fun D σ H q => setf_imp cl na q
/-! ### methods -/
def E.chk (C : Addr) (m : Str) (o : EM) : EM := fun sl => (o sl).bind fun p sl => match p.view sl with
  | some (.obj C' ns _) => if C' = C ∧ m ∉ ns then .ok p sl else .stuck
  | _ => .stuck
theorem lookup_none {m : Str} : ∀ {ns : List Str} {vs : List V}, m ∉ ns → (ns.zip vs).lookup m = none
  | [], _, _ => rfl
  | _ :: _, [], _ => rfl
  | n :: ns, v :: vs, h => by
    have e : (m == n) = false := by
      simp only [List.mem_cons, not_or] at h
      simpa using h.1
    rw [List.zip_cons_cons, List.lookup, e]
    exact lookup_none (by simp only [List.mem_cons, not_or] at h; exact h.2)
theorem chk_imp {K : PySem.W.Frag} {C : Addr} {m : Str} {σ : L2.St} {H : Hp} {Q : VK} (q : tE K (E.chk C m ma) σ H Q) : tE K ma σ H fun x H1 => (∃ a dx fs, x = V.ref a ∧ H1 a = some (.ins C dx fs) ∧ fs.lookup m = none) ∧ Q x H1 := by
  obtain ⟨O, W, sl, o, sl', x, e, q5⟩ := tE_of q
  obtain ⟨o1, s1, e1, e2⟩ := bind_ok e
  cases ev : o1.view s1 with
  | none => simp only [ev] at e2; cases e2
  | some d =>
    simp only [ev] at e2
    cases d with
    | obj C' ns ds =>
      simp only at e2
      by_cases hc : C' = C ∧ m ∉ ns
      · rw [if_pos hc] at e2
        cases e2
        obtain ⟨rfl, hm⟩ := hc
        refine tE_mk x e1 fun W1 f1 v1 H1 t1 x1 r1 n1 => ⟨?_, q5 W1 f1 v1 H1 t1 x1 r1 n1⟩
        obtain ⟨a, dx, vs, rfl, h1, l, r⟩ := rw_obj hid_same (r1.toW' x1 ev)
        exact ⟨a, dx, _, rfl, h1, lookup_none hm⟩
      · rw [if_neg hc] at e2; cases e2
    | _ => cases e2
abbrev E.meth (C : Addr) (m : Str) (n : Nat) (g : FM) (o : EM) (as : AM) : EM := E.call n g (A.cons (E.chk C m o) as)
theorem meth_imp {K : PySem.W.Frag} {C : Addr} {m : Str} {n : Nat} {g : FM} {mo : EM} {ms : AM} {σ : L2.St} {H : Hp} {Q : VK} {EE : XK} (q : tE K (E.meth C m n g mo ms) σ H Q) : tMeth C m (spF K n g) [] EE (tE K mo) (tAs K ms) σ H Q := by
  have q1 : tAs K (A.cons (E.chk C m mo) ms) σ H fun vs H1 => spF K n g (vs ++ []) H1 Q EE := call_imp q
  obtain ⟨O, W, sl, x, q2⟩ := chk_imp (cons_imp q1)
  refine ⟨O, W, sl, x, ?_⟩
  cases e : mo sl with
  | ok o s =>
    rw [e] at q2
    intro W1 f1 v1 H1 t1 x1 r1 n1
    obtain ⟨⟨a, dx, fs, h1, h2, h3⟩, q3⟩ := q2 W1 f1 v1 H1 t1 x1 r1 n1
    exact ⟨a, dx, fs, h1, h2, h3, q3⟩
  | exc _ _ => rw [e] at q2; exact q2
  | stuck => rw [e] at q2; exact q2
theorem asNil {K : PySem.W.Frag} {σ : L2.St} {H : Hp} {Q : List V → Hp → Prop} (h : tAs K A.nil σ H Q) : tNil σ H Q := by
  obtain ⟨O, W, sl, x, h⟩ := h
  exact h W noF [] H ⟨fun _ _ h _ => h, fun i a h => .inl ⟨i, h⟩, fun a ⟨j, h⟩ => by simp [noF] at h⟩
    (x.less fun a h => h.elim id fun ⟨j, h⟩ => by simp [noF] at h) ⟨rfl, fun j o h => by simp at h, fun _ _ => rfl, fun i j a h => by simp [noF] at h⟩ fun j a h => by simp [noF] at h
variable {n k : Nat} {g : FM} {C f : Addr} {m x : Str} {fd : FuncData} {ps : List Str} {CX : CXT} {EE : XK} {mo : EM} {ms : AM}
theorem se_meth {pl : Sem Bool} (c : Cls X.K C) (hm : Meth X.K C m f) (F : FnOk X.prog X.w X.K X.mg X.base CX k f fd ps (spF X.K n g)) (hr : Room k X.A) (hb : Binds X.K fd ps []) (hx : Passes CX X EE) (ho : SE X o mo) (ha : SA X (e :: es) ms)
    (s1 : starEach (e :: es) X.env = (false, eval e X.env) :: starEach es X.env := by rfl) (s2 : (backTo pos (starEach es X.env)).any (·.1) = false := by rfl)
    (ht : eval (.Call (.Attribute o m apos) (e :: es) [] pos) X.env = (do { let u ← eval o X.env; standAt apos.atName; let (c, u1) ← holding [u] (getMethod u m pl); callWith pos c u1 (backTo pos (starEach (e :: es) X.env)) (backToKw pos (keywordEach [] X.env)) }) := by rfl) :
    SE X (.Call (.Attribute o m apos) (e :: es) [] pos) (E.meth C m n g mo ms) := (pe_meth ho c hm F hr hb .nil hx ha s1 s2 ht).imp fun σ H Q q => meth_imp q
theorem se_meth0 {pl : Sem Bool} (c : Cls X.K C) (hm : Meth X.K C m f) (F : FnOk X.prog X.w X.K X.mg X.base CX k f fd ps (spF X.K n g)) (hr : Room k X.A) (hb : Binds X.K fd ps []) (hx : Passes CX X EE) (ho : SE X o mo)
    (ht : eval (.Call (.Attribute o m apos) [] [] pos) X.env = (do { let u ← eval o X.env; standAt apos.atName; let (c, u1) ← holding [u] (getMethod u m pl); callWith pos c u1 (backTo pos (starEach [] X.env)) (backToKw pos (keywordEach [] X.env)) }) := by rfl) :
    SE X (.Call (.Attribute o m apos) [] [] pos) (E.meth C m n g mo A.nil) := (pe_meth0 ho c hm F hr hb .nil hx ht).imp fun σ H Q q => by
  have q' := meth_imp (EE := EE) q
  obtain ⟨O, W, sl, x, q2⟩ := q'
  refine ⟨O, W, sl, x, ?_⟩
  cases e : mo sl with
  | ok o s =>
    rw [e] at q2
    intro W1 f1 v1 H1 t1 x1 r1 n1
    obtain ⟨a, dx, fs, h1, h2, h3, q3⟩ := q2 W1 f1 v1 H1 t1 x1 r1 n1
    exact ⟨a, dx, fs, h1, h2, h3, asNil q3⟩
  | exc _ _ => rw [e] at q2; exact q2
  | stuck => rw [e] at q2; exact q2
end
end Sy
namespace Sy
open PySem PySem.Spec PyProof.Rows L2
/-! ### C(..) -/
def E.make (C : Addr) (n : Nat) (g : FM) (as : AM) : EM := fun sl => (as sl).bind fun os sl => match conts sl os with
  | some ms => if os.length + 1 = n ∧ (ownSl sl os).Nodup then (match g (.obj C [] [] :: ms) with
    | .ok (.val .non) (m' :: ms') => if ms'.length + 1 = n then .ok (.tmp m') (giveb sl os ms' sl) else .stuck
    | _ => .stuck) else .stuck
  | none => .stuck
theorem make_imp {K : PySem.W.Frag} {C : Addr} {n : Nat} {g : FM} {ms : AM} {σ : L2.St} {H : Hp} {Q : VK} {EE : XK} (q : tE K (E.make C n g ms) σ H Q) : tMake C (spF K n g) [] EE (tAs K ms) σ H Q := by
  obtain ⟨O, W, sl, o, sl', x, e, q⟩ := tE_of q
  obtain ⟨os, s1, e1, e2⟩ := bind_ok e
  cases ec : conts s1 os with
  | none => simp only [ec] at e2; cases e2
  | some cs =>
    simp only [ec] at e2
    by_cases hc : os.length + 1 = n ∧ (ownSl s1 os).Nodup
    · rw [if_pos hc] at e2
      obtain ⟨hn, nd⟩ := hc
      refine tAs_mk x e1 fun W1 F vs H1 t1 x1 r1 n1 => ?_
      intro a dx ha hdx hne
      rw [List.append_nil]
      generalize hH : upd (upd H1 dx (.own a)) a (.ins C dx []) = H1'
      have sm : Same H1 H1' := fun b ob eb => by
        rw [← hH, upd_ne (ne_of_none eb ha), upd_ne (ne_of_none eb hdx)]
        exact eb
      have hH1 : H1' a = some (.ins C dx []) := by rw [← hH]; exact upd_same
      have nO : ¬ plusF O F a := fun z => by
        obtain ⟨ob, eb⟩ := x1.al a z
        rw [ha] at eb; cases eb
      have hP : ∀ b, plusF O (consF [a] F) b → plusF O F b ∨ b = a := fun b h => by
        rcases h with h | ⟨j, h⟩
        · exact .inl (.inl h)
        · cases j with
          | zero => exact .inr (by simpa [consF] using h)
          | succ j => exact .inl (.inr ⟨j, h⟩)
      have x1' : Sim K (plusF O (consF [a] F)) W1 s1 σ H1' := x1.grow sm (fun b h => (hP b h).imp id fun h => by rw [h]; exact ha) fun b h => by
        rcases hP b h with h | h
        · obtain ⟨ob, eb⟩ := x1.al b h
          exact ⟨ob, sm b ob eb⟩
        · rw [h]; exact ⟨_, hH1⟩
      have t1' : Tr W H W1 (fun b => ∃ j, b ∈ consF [a] F j) H1' := ⟨fun b ob eb hb => sm b ob (t1.keep b ob eb hb), t1.new, fun b ⟨j, h⟩ => by
        cases j with
        | zero =>
          have hb : b = a := by simpa [consF] using h
          subst hb
          exact t1.dead ha
        | succ j => exact t1.newf b ⟨j, h⟩⟩
      have hG : Same (gr (plusF O F) W1 H1) (gr (plusF O (consF [a] F)) W1 H1') := gr_same sm fun b h => (hP b h).imp id fun h => by rw [h]; exact ha
      have r1' : ROps K (gr (plusF O (consF [a] F)) W1 H1') H1' σ (.tmp (.obj C [] []) :: os) (.ref a :: vs) (consF [a] F) := by
        refine ⟨by simp [r1.len], fun j p h => ?_, fun j h => ?_, fun i j b h1 h2 => ?_⟩
        · cases j with
          | zero =>
            simp at h; subst h
            exact ⟨.ref a, rfl, .tmp (.obj (vs := []) (by simpa using hH1) rfl .nil)⟩
          | succ j =>
            obtain ⟨v, ev, r⟩ := r1.at_ j p (by simpa using h)
            refine ⟨v, by simpa using ev, ?_⟩
            show ROp _ _ _ _ _ _ (F j)
            generalize F j = fj at r
            cases r with
            | tmp r => exact .tmp (r.mono hG fun b _ ob eb => sm b ob eb)
            | pl e => exact .pl e
        · cases j with
          | zero => simp at h
          | succ j => exact r1.no j (by simpa using h)
        · have na : ∀ j, a ∉ F j := fun j h => nO (.inr ⟨j, h⟩)
          cases i with
          | zero =>
            cases j with
            | zero => rfl
            | succ j =>
              have hb : b = a := by simpa [consF] using h1
              subst hb
              exact absurd h2 (na j)
          | succ i =>
            cases j with
            | zero =>
              have hb : b = a := by simpa [consF] using h2
              subst hb
              exact absurd h1 (na i)
            | succ j => rw [r1.inj i j b h1 h2]
      have n1' : ∀ j, ∀ b ∈ consF [a] F j, ¬ O b := fun j b h => by
        cases j with
        | zero =>
          have hb : b = a := by simpa [consF] using h
          subst hb
          exact fun z => nO (.inl z)
        | succ j => exact n1 j b h
      have ec' : conts s1 (.tmp (.obj C [] []) :: os) = some (.obj C [] [] :: cs) := by
        unfold conts
        rw [ec]
        rfl
      obtain ⟨Oc, Wc, xc, ret⟩ := call_core (n := n) (os := .tmp (.obj C [] []) :: os) (by simpa using hn) (by unfold ownSl; exact nd) ec' t1' x1' r1' n1'
      refine ⟨by simp; rw [← r1.len]; exact hn, Oc, Wc, _, xc, ?_⟩
      cases eg : g (.obj C [] [] :: cs) with
      | exc _ _ => rw [eg] at e2; cases e2
      | stuck => rw [eg] at e2; cases e2
      | ok r ms0 =>
        rw [eg] at e2
        cases r with
        | lst _ => cases e2
        | obj _ _ _ => cases e2
        | dct _ _ => cases e2
        | bo _ _ _ _ _ _ => cases e2
        | val dr =>
          cases dr with
          | non =>
            cases ms0 with
            | nil => cases e2
            | cons m' ms' =>
              simp only at e2
              by_cases hl : ms'.length + 1 = n
              · rw [if_pos hl] at e2
                cases e2
                intro Wd f v H2 t2 x2 rm nf
                have hv : v = .non ∧ f = [] := by
                  cases rm with
                  | val q => cases q; exact ⟨rfl, rfl⟩
                obtain ⟨rfl, rfl⟩ := hv
                refine ⟨rfl, ?_⟩
                have e0 : ((m' :: ms').map some)[0]? = some (some m') := rfl
                have ev0 : ((V.ref a :: vs).map some)[0]? = some (some (V.ref a)) := rfl
                have x2' : Sim K Oc Wd ((m' :: ms').map some) ((V.ref a :: vs).map some) H2 := x2.less fun b h => .inl h
                obtain ⟨y1, y2, y3⟩ := x2'.take e0 ev0
                have t3 : Tr Wc H1' (setW Wd 0 []) (· ∈ Wd 0) H2 := ⟨t2.keep, fun j b h => t2.new j b (shr_set j b h), fun b h => t2.new 0 b h⟩
                obtain ⟨W2, z1, z2, z3, z4⟩ := ret (setW Wd 0 []) (Wd 0) (m' :: ms') _ H2 t3 y1 (by simpa using hl) (fun j i hj => by
                  cases j with
                  | zero => simp at hj
                  | succ j =>
                    rw [List.getElem?_set_ne (by omega)]
                    exact res_at (os := Op.tmp (.obj C [] []) :: os) (n := n) (by simpa using hl) (by simpa using hn) (j + 1) i hj) y3
                exact q W2 (Wd 0) (.ref a) H2 z1 z2 (.tmp (y2.mono z3 fun _ _ _ h => h)) z4
              · rw [if_neg hl] at e2; cases e2
          | _ => cases e2
    · rw [if_neg hc] at e2; cases e2
section
variable {X : Cx} {as : List Nat} {pos pos' p apos : Pos} {e o : Expr} {es : List Expr} {ma mi mv : EM} {ms : AM} {n k : Nat} {g : FM} {C f : Addr} {x : Str} {fd : FuncData} {ps : List Str} {CX : CXT} {EE : XK}
theorem se_make (M : Mk X.K C f) (F : FnOk X.prog X.w X.K X.mg X.base CX k f fd ps (spF X.K n g)) (hr : Room (k + 1) X.A) (hm : X.mg x = some (.ref C)) (hb : Binds X.K fd ps []) (hx : Passes CX X EE) (ha : SA X (e :: es) ms)
    (hg : Gl X x := by rfl) (h0 : (x == ("__debug__" : Str)) = false := by decide) (h1 : starEach (e :: es) X.env = (false, eval e X.env) :: starEach es X.env := by rfl) (h2 : (backTo pos (starEach es X.env)).any (·.1) = false := by rfl) :
    SE X (.Call (.Name x p) (e :: es) [] pos) (E.make C n g ms) := (pe_make M F hr hg hm hb .nil hx ha (hdb := h0) (he := h1) (hpl := h2)).imp fun σ H Q q => make_imp q
/-! ### xs[i] = e -/
def SubAsg (X : Cx) (oe ie : Expr) (ps : Pos) : Prop := ∀ u, assign (.Subscript oe ie ps) X.env u = (do { let a ← holding [u] (eval oe X.env); let b ← holding [u, a] (eval ie X.env); standAt ps; holding [u, a, b] (setItem a b u); release [u, a, b] [] })
def S.seti (i : Nat) (ix v : EM) : SM := fun sl => (v sl).s fun o sl => match settle1 o sl with
  | some (d, sl) => if isLst sl i = true then (ix sl).s fun p sl => (match p.view sl, sl[i]? with
    | some (.int k), some (some (.lst xs)) => (match ixN xs.length k with
      | some j => .nx (sl.set i (some (.lst (xs.set j d))))
      | none => .stuck)
    | _, _ => .stuck) else .stuck
  | none => .stuck
theorem seti_imp {K : PySem.W.Frag} {Wx : WX} {i : Nat} {D : Ends} {σ : L2.St} {H : Hp} (q : tS K Wx (S.seti i mi mv) as D σ H) : tAsg (tE K mv) (gSub (tVar i) (tE K mi) rSetL) D σ H := by
  obtain ⟨O, W, sl, x, q⟩ := q
  obtain ⟨o, s1, e1, q⟩ := post_ok q
  refine tE_mk x e1 fun W1 f1 v1 H1 t1 x1 r1 n1 => ?_
  cases es : settle1 o s1 with
  | none => rw [es] at q; exact q.elim
  | some pr =>
    obtain ⟨d, s2⟩ := pr
    rw [es] at q
    simp only at q
    obtain ⟨W2, x2, rd, sh⟩ := settle1_ok x1 r1 n1 es
    cases hi : isLst s2 i with
    | false => rw [hi] at q; exact q.elim
    | true =>
    rw [if_pos hi] at q
    obtain ⟨a, _, _, _, ea, _, _, _⟩ := own_ref x2 hi
    obtain ⟨p, s3, e3, q⟩ := post_ok q
    cases ev : p.view s3 with
    | none => rw [ev] at q; exact q.elim
    | some dk =>
      cases el : s3[i]? with
      | none => rw [ev, el] at q; cases dk <;> exact q.elim
      | some y =>
        rw [ev, el] at q
        cases dk with
        | int k =>
          cases y with
          | none => exact q.elim
          | some m =>
            cases m with
            | val _ => exact q.elim
            | obj _ _ _ => exact q.elim
            | dct _ _ => exact q.elim
            | bo _ _ _ _ _ _ => exact q.elim
            | lst xs =>
              simp only at q
              cases ej : ixN xs.length k with
              | none => rw [ej] at q; exact q.elim
              | some j =>
                rw [ej] at q
                refine ⟨_, ea, ?_⟩
                refine tE_mk x2 e3 fun W3 f3 v3 H3 t3 x3 r3 n3 => ?_
                have x3' : Sim K O W3 s3 σ H3 := x3.less fun b h => .inl h
                have rm := x3.getv el ea
                have hk : v3 = .int k := rw_int (r3.toW' x3 ev)
                obtain ⟨vs, hH, rx⟩ : ∃ vs, H3 a = some (.lst vs) ∧ RDs K (gr O W3 H3) xs vs := by
                  have rm' := x3'.getv el ea
                  generalize W3 i = w at rm'
                  cases rm' with
                  | lst h1 h2 => exact ⟨_, h1, h2⟩
                have rd' := rd.up (gr_tr t3 (O1 := O) fun b h => .inl h)
                refine ⟨a, vs, k, j, rfl, hk, hH, by rw [← RDs.length rx]; exact ej, ?_⟩
                obtain ⟨x4, t4⟩ := x3'.mut el ea (rx.set rd' j)
                exact q W3 σ _ (((tr_shr t1.noL sh).trans t3.noL).trans t4) x4 Agr.refl
        | _ => exact q.elim
theorem ss_seti {y : Str} (i : Nat) {ie : Expr} (hv : SE X e mv) (hi : SE X ie mi) (hN : X.N[i]? = some y := by rfl) (hvis : Vis X.env.scope y := by first | exact Or.inl rfl | exact Or.inr (Or.inl rfl) | exact Or.inr (Or.inr rfl)) (hd : (y == ("__debug__" : Str)) = false := by decide)
    (hcd : (y == ("__classdict__" : Str)) = false := by decide)
    (ht : SubAsg X (.Name y p) ie pos' := by exact fun _ => rfl) (hs : swapsWithSole [.Subscript (.Name y p) ie pos'] e pos.line X.env = pure false := by rfl) (hw : swappedStores [.Subscript (.Name y p) ie pos'] e X.env = pure none := by rfl)
    (h1 : (assignEach [.Subscript (.Name y p) ie pos'] X.env).map (·.2) = [assign (.Subscript (.Name y p) ie pos') X.env] := by rfl) : SS X (.Assign [.Subscript (.Name y p) ie pos'] e pos) (S.seti i mi mv) as :=
  fun Wx tk => (ps_asg hv (pg_sub (pv i hN hvis hd hcd) hi set_list ht) hs hw h1).imp fun D σ H q => seti_imp q
end
/-! ### more walks -/
noncomputable def I.rngD (as : AM) : IM := fun sl => (as sl).bind fun os sl => match views sl os with
  | some [.int a, .int b, .int c] => if c = -1 ∧ small62 a ∧ small62 b then .ok ((List.range (a - b).toNat).map fun (i : Nat) => .int (a - i)) sl else .stuck
  | _ => .stuck
noncomputable def I.revR1 (m : EM) : IM := fun sl => (m sl).bind fun o sl => match o.view sl with
  | some (.int n) => if small62 n then .ok ((List.range n.toNat).map fun (i : Nat) => .int (n - 1 - i)) sl else .stuck
  | _ => .stuck
section
variable {X : Cx} {tg e : Expr} {pos p p2 pos2 : Pos} {ma : EM} {K : PySem.W.Frag} {G H : Hp}
theorem itok_dn {a : Int} {n : Nat} : ItOk K G ((List.range n).map fun (i : Nat) => DV.int (a - i)) (Itc a (-1) n) := fun i H P al s => by
  refine ⟨fun hi => ?_, fun hi => (show n ≤ i by simpa using hi)⟩
  simp at hi
  refine ⟨hi, fun y H' ⟨e1, e2⟩ => ?_⟩
  subst e1 e2
  have : a + (i : Nat) * (-1 : Int) = a - i := by omega
  rw [this]
  exact ⟨Same.refl _, .int (a - i), by simp [hi], .int _⟩
theorem si_rngD {a b c : Expr} {ms : AM} (hm : X.mg "range" = none) (ha : SA X [a, b, c] ms) (hg : Gl X "range" := by rfl) (h1 : starEach [a, b, c] X.env = (false, eval a X.env) :: starEach [b, c] X.env := by rfl) (h2 : (backTo pos (starEach [b, c] X.env)).any (·.1) = false := by rfl) :
    SI X tg (.Call (.Name "range" p) [a, b, c] [] pos) (I.rngD ms) := (pi_range3 hg hm ha h1 h2).imp fun σ H R q => by
  obtain ⟨O, W, sl, ds, sl', x, e, q⟩ := tI_of q
  obtain ⟨os, s1, e1, e2⟩ := bind_ok e
  refine tAs_mk x e1 fun W1 F1 vs H1 t1 x1 r1 n1 => ?_
  cases e3 : views s1 os with
  | none => rw [e3] at e2; cases e2
  | some ws =>
    rw [e3] at e2
    match ws, e3, e2 with
    | [.int n, .int m, .int k], e3, e2 =>
      simp only at e2
      by_cases hb : k = -1 ∧ small62 n ∧ small62 m
      · rw [if_pos hb] at e2
        cases e2
        obtain ⟨rfl, hb⟩ := hb
        obtain ⟨v, w, u, rfl, rv, rw', ru⟩ := rws3 (ROps.toWs (ds := []) x1 r1 e3)
        exact ⟨n, m, -1, _, by rw [rw_int rv, rw_int rw', rw_int ru], RgC.neg hb.1.1 hb.1.2 hb.2.1 hb.2.2, q W1 H1 _ t1.noF (x1.less fun a h => .inl h) itok_dn⟩
      · rw [if_neg hb] at e2; cases e2
theorem si_revR1 {a : Expr} (hm : X.mg "range" = none) (hm2 : X.mg "reversed" = none) (ha : SE X a ma) (hg : Gl X "range" := by rfl) (hg2 : Gl X "reversed" := by rfl) (h1 : starEach [a] X.env = (false, eval a X.env) :: starEach [] X.env := by rfl)
    (h2 : starEach [.Call (.Name "range" p) [a] [] pos] X.env = (false, eval (.Call (.Name "range" p) [a] [] pos) X.env) :: starEach [] X.env := by rfl) :
    SI X tg (.Call (.Name "reversed" p2) [.Call (.Name "range" p) [a] [] pos] [] pos2) (I.revR1 ma) := (pi_revR hg2 hm2 (prg_1 hg hm ha h1) h2).imp fun σ H R q => by
  obtain ⟨O, W, sl, ds, sl', x, e, q⟩ := tI_of q
  obtain ⟨o, s1, e1, e2⟩ := bind_ok e
  refine tE_mk x e1 fun W1 f1 v1 H1 t1 x1 r1 n1 => ?_
  cases e3 : o.view s1 with
  | none => rw [e3] at e2; cases e2
  | some d =>
    rw [e3] at e2
    cases d with
    | int n =>
      simp only at e2
      by_cases hb : small62 n
      · rw [if_pos hb] at e2
        cases e2
        refine ⟨n, rw_int (r1.toW' x1 e3), by decide, by decide, hb.1, hb.2, q W1 H1 _ t1.noL (x1.less fun a h => .inl h) ?_⟩
        by_cases hn : 0 ≤ n
        · have := itok_dn (K := X.K) (G := gr O W1 H1) (a := n - 1) (n := n.toNat)
          have e4 : (0 : Int) + (((n - 0).toNat : Nat) : Int) - 1 = n - 1 := by omega
          have e5 : (n - 0).toNat = n.toNat := by omega
          rw [e4, e5]
          exact this
        · have e5 : (n - 0).toNat = 0 := by omega
          have e6 : n.toNat = 0 := by omega
          rw [e5, e6]
          exact fun i H P al s => ⟨fun hi => absurd hi (by simp), fun _ => Nat.zero_le _⟩
      · rw [if_neg hb] at e2; cases e2
    | _ => cases e2
end
/-! ### min, max, in -/
def min2D : List DV → Option MV
  | [.int i, .int j] => it (if j < i then j else i)
  | _ => none
def max2D : List DV → Option MV
  | [.int i, .int j] => it (if j > i then j else i)
  | _ => none
theorem b_min2 {K : PySem.W.Frag} : BL K (fun xs H Q => ∃ i j, xs = [.int i, .int j] ∧ Q (.int (if j < i then j else i)) H) min2D := fun P H xs ds m Q h al r q => by
  unfold min2D at h
  split at h
  · cases h
    obtain ⟨v, w, rfl, rv, rw'⟩ := rws2 r
    exact ⟨_, _, by rw [rw_int rv, rw_int rw'], new_int q⟩
  · cases h
theorem b_max2 {K : PySem.W.Frag} : BL K (fun xs H Q => ∃ i j, xs = [.int i, .int j] ∧ Q (.int (if j > i then j else i)) H) max2D := fun P H xs ds m Q h al r q => by
  unfold max2D at h
  split at h
  · cases h
    obtain ⟨v, w, rfl, rv, rw'⟩ := rws2 r
    exact ⟨_, _, by rw [rw_int rv, rw_int rw'], new_int q⟩
  · cases h
def minL : List Int → Int
  | [] => 0
  | [a] => a
  | a :: b :: r => min a (minL (b :: r))
def maxL : List Int → Int
  | [] => 0
  | [a] => a
  | a :: b :: r => max a (maxL (b :: r))
theorem minL_ok : ∀ {ns : List Int}, ns ≠ [] → minL ns ∈ ns ∧ ∀ y ∈ ns, minL ns ≤ y
  | [], h => absurd rfl h
  | [a], _ => ⟨by simp [minL], by simp [minL]⟩
  | a :: b :: r, _ => by
    obtain ⟨h1, h2⟩ := minL_ok (ns := b :: r) (by simp)
    have e : minL (a :: b :: r) = min a (minL (b :: r)) := rfl
    rw [e]
    refine ⟨?_, fun y hy => ?_⟩
    · by_cases h : a ≤ minL (b :: r)
      · rw [Int.min_eq_left h]; simp
      · rw [Int.min_eq_right (by omega)]; exact List.mem_cons_of_mem _ h1
    · rcases List.mem_cons.mp hy with rfl | hy
      · exact Int.min_le_left _ _
      · exact Int.le_trans (Int.min_le_right _ _) (h2 y hy)
theorem maxL_ok : ∀ {ns : List Int}, ns ≠ [] → maxL ns ∈ ns ∧ ∀ y ∈ ns, y ≤ maxL ns
  | [], h => absurd rfl h
  | [a], _ => ⟨by simp [maxL], by simp [maxL]⟩
  | a :: b :: r, _ => by
    obtain ⟨h1, h2⟩ := maxL_ok (ns := b :: r) (by simp)
    have e : maxL (a :: b :: r) = max a (maxL (b :: r)) := rfl
    rw [e]
    refine ⟨?_, fun y hy => ?_⟩
    · by_cases h : maxL (b :: r) ≤ a
      · rw [Int.max_eq_left h]; simp
      · rw [Int.max_eq_right (by omega)]; exact List.mem_cons_of_mem _ h1
    · rcases List.mem_cons.mp hy with rfl | hy
      · exact Int.le_max_left _ _
      · exact Int.le_trans (h2 y hy) (Int.le_max_right _ _)
def minD : List DV → Option MV
  | [.lst ds] => (intsOf ds).bind fun ns => if ns = [] then none else it (minL ns)
  | _ => none
def maxD : List DV → Option MV
  | [.lst ds] => (intsOf ds).bind fun ns => if ns = [] then none else it (maxL ns)
  | _ => none
theorem b_min {K : PySem.W.Frag} : BL K (fun vs H Q => ∃ (a : Addr) (ns : List Int), vs = [V.ref a] ∧ SqL K H a (ns.map V.int) ∧ 0 < ns.length ∧ ∀ m, m ∈ ns → (∀ y, y ∈ ns → m ≤ y) → Q (.int m) H) minD := fun P H xs ds m Q h al r q => by
  unfold minD at h
  split at h
  · rename_i es
    cases e : intsOf es with
    | none => rw [e] at h; cases h
    | some ns =>
      rw [e] at h
      obtain ⟨v, rfl, rv⟩ := rws1 r
      obtain ⟨p, vs, rfl, h1, r1⟩ := rw_lst hid_same rv
      rw [intsOf_ok e r1] at h1
      by_cases hn : ns = []
      · simp [hn] at h
      · simp only [Option.bind_some, if_neg hn] at h
        cases h
        refine ⟨p, ns, rfl, SqL.of h1, List.length_pos_iff.mpr hn, fun k hk hy => ?_⟩
        obtain ⟨g1, g2⟩ := minL_ok hn
        have : k = minL ns := Int.le_antisymm (hy _ g1) (g2 k hk)
        rw [this]
        exact new_int q
  · cases h
theorem b_max {K : PySem.W.Frag} : BL K (fun vs H Q => ∃ (a : Addr) (ns : List Int), vs = [V.ref a] ∧ SqL K H a (ns.map V.int) ∧ 0 < ns.length ∧ ∀ m, m ∈ ns → (∀ y, y ∈ ns → y ≤ m) → Q (.int m) H) maxD := fun P H xs ds m Q h al r q => by
  unfold maxD at h
  split at h
  · rename_i es
    cases e : intsOf es with
    | none => rw [e] at h; cases h
    | some ns =>
      rw [e] at h
      obtain ⟨v, rfl, rv⟩ := rws1 r
      obtain ⟨p, vs, rfl, h1, r1⟩ := rw_lst hid_same rv
      rw [intsOf_ok e r1] at h1
      by_cases hn : ns = []
      · simp [hn] at h
      · simp only [Option.bind_some, if_neg hn] at h
        cases h
        refine ⟨p, ns, rfl, SqL.of h1, List.length_pos_iff.mpr hn, fun k hk hy => ?_⟩
        obtain ⟨g1, g2⟩ := maxL_ok hn
        have : k = maxL ns := Int.le_antisymm (g2 k hk) (hy _ g1)
        rw [this]
        exact new_int q
  · cases h
def inD : DV → DV → Option MV
  | .int x, .lst ds => (intsOf ds).bind fun ns => bl (decide (x ∈ ns))
  | _, _ => none
def ninD : DV → DV → Option MV
  | .int x, .lst ds => (intsOf ds).bind fun ns => bl (!decide (x ∈ ns))
  | _, _ => none
theorem inV_ints (x : Int) : ∀ ns : List Int, inV (.int x) (ns.map V.int) = decide (x ∈ ns)
  | [] => rfl
  | n :: ns => by
    have ih := inV_ints x ns
    unfold inV at ih ⊢
    rw [List.map_cons, List.any_cons, ih]
    show ((n == x) || decide (x ∈ ns)) = _
    by_cases h : x = n
    · subst h; simp
    · have : ¬ n = x := fun e => h e.symm
      simp [h, this]
theorem flat_ints (ns : List Int) : (ns.map V.int).all flatV = true := by simp [flatV]
theorem b_in {K : PySem.W.Frag} : B2 K (rIn K false) inD := fun P H x y d e m Q h al rx ry q => by
  unfold inD at h
  split at h
  · rename_i k es
    cases e : intsOf es with
    | none => rw [e] at h; cases h
    | some ns =>
      rw [e] at h
      cases h
      obtain ⟨p, vs, rfl, h1, r1⟩ := rw_lst hid_same ry
      rw [intsOf_ok e r1] at h1
      rw [rw_int rx]
      refine ⟨p, _, rfl, .inl (SqL.of h1), rfl, flat_ints ns, ?_⟩
      rw [inV_ints]
      exact new_bl q
  · cases h
theorem b_nin {K : PySem.W.Frag} : B2 K (rIn K true) ninD := fun P H x y d e m Q h al rx ry q => by
  unfold ninD at h
  split at h
  · rename_i k es
    cases e : intsOf es with
    | none => rw [e] at h; cases h
    | some ns =>
      rw [e] at h
      cases h
      obtain ⟨p, vs, rfl, h1, r1⟩ := rw_lst hid_same ry
      rw [intsOf_ok e r1] at h1
      rw [rw_int rx]
      refine ⟨p, _, rfl, .inl (SqL.of h1), rfl, flat_ints ns, ?_⟩
      rw [inV_ints]
      exact new_bl q
  · cases h
end Sy
namespace Sy
open PySem PySem.Spec PyProof.Rows L2
/-! ### running by simp: attributes, methods, making, item stores, more walks -/
@[simp] theorem strInj2 {a b : String} : (Str.ofString a = Str.ofString b) = (a = b) := propext strInj
@[simp] theorem fldD_obj {C C' : Addr} {f : Str} {ns : List Str} {ds : List DV} : fldD C f (.obj C' ns ds) = if C' = C then (fget f ns ds).bind fldV else none := rfl
@[simp] theorem fldV_int {i : Int} : fldV (.int i) = some (.val (.int i)) := rfl
@[simp] theorem fldV_bl {i : Bool} : fldV (.bl i) = some (.val (.bl i)) := rfl
@[simp] theorem fldV_str {i : Str} : fldV (.str i) = some (.val (.str i)) := rfl
@[simp] theorem fldV_non : fldV .non = some (.val .non) := rfl
@[simp] theorem fldV_tup {i : List DV} : fldV (.tup i) = some (.val (.tup i)) := rfl
@[simp] theorem fldV_lst {i : List DV} : fldV (.lst i) = some (.val (.lst i)) := rfl
@[simp] theorem fldV_obj {C : Addr} {ns : List Str} {i : List DV} : fldV (.obj C ns i) = some (.val (.obj C ns i)) := rfl
@[simp] theorem fget_cons {α : Type} {f n : Str} {ns : List Str} {d : α} {ds : List α} : fget f (n :: ns) (d :: ds) = if n = f then some d else fget f ns ds := rfl
@[simp] theorem fput_nil {α : Type} {f : Str} {d : α} {ds : List α} : fput f d [] ds = ([f], [d]) := rfl
@[simp] theorem fput_cons {α : Type} {f n : Str} {ns : List Str} {d e : α} {ds : List α} : fput f d (n :: ns) (e :: ds) = if n = f then (n :: ns, d :: ds) else (n :: (fput f d ns ds).1, e :: (fput f d ns ds).2) := rfl
@[simp] theorem MV.view_obj {C : Addr} {ns : List Str} {ds : List DV} : (MV.obj C ns ds).view = .obj C ns ds := rfl
def setfG (C : Addr) (f : Str) (i : Nat) (d : DV) (sl : Sl) : Option (Option MV) → SRes
  | some (some (.obj C' ns ds)) => if C' = C ∧ ns.length < 900 then .nx (sl.set i (some (.obj C (fput f d ns ds).1 (fput f d ns ds).2))) else .stuck
  | _ => .stuck
@[simp] theorem setfG_s {C C' : Addr} {f : Str} {i : Nat} {d : DV} {sl : Sl} {ns : List Str} {ds : List DV} : setfG C f i d sl (some (some (.obj C' ns ds))) = if C' = C ∧ ns.length < 900 then .nx (sl.set i (some (.obj C (fput f d ns ds).1 (fput f d ns ds).2))) else .stuck := rfl
def setfP (C : Addr) (f : Str) (i : Nat) : Option (DV × Sl) → SRes
  | some (d, sl) => setfG C f i d sl sl[i]?
  | none => .stuck
@[simp] theorem setfP_s {C : Addr} {f : Str} {i : Nat} {d : DV} {sl : Sl} : setfP C f i (some (d, sl)) = setfG C f i d sl sl[i]? := rfl
def Res.setf (r : Res Op) (C : Addr) (f : Str) (i : Nat) : SRes := r.s fun o sl => setfP C f i (settle1 o sl)
@[simp] theorem Res.setf_ok {o : Op} {sl : Sl} {C : Addr} {f : Str} {i : Nat} : (Res.ok o sl).setf C f i = setfP C f i (settle1 o sl) := rfl
@[simp] theorem S.setf_eq {C : Addr} {f : Str} {i : Nat} {m : EM} {sl : Sl} : S.setf C f i m sl = (m sl).setf C f i := by
  unfold S.setf Res.setf setfP setfG
  all_goals rfl
def chkO (C : Addr) (m : Str) (p : Op) (sl : Sl) : Option DV → Res Op
  | some (.obj C' ns _) => if C' = C ∧ m ∉ ns then .ok p sl else .stuck
  | _ => .stuck
@[simp] theorem chkO_s {C C' : Addr} {m : Str} {p : Op} {sl : Sl} {ns : List Str} {ds : List DV} : chkO C m p sl (some (.obj C' ns ds)) = if C' = C ∧ m ∉ ns then .ok p sl else .stuck := rfl
def Res.chk (r : Res Op) (C : Addr) (m : Str) : Res Op := r.bind fun p sl => chkO C m p sl (p.view sl)
@[simp] theorem Res.chk_ok {o : Op} {sl : Sl} {C : Addr} {m : Str} : (Res.ok o sl).chk C m = chkO C m o sl (o.view sl) := rfl
@[simp] theorem E.chk_eq {C : Addr} {m : Str} {o : EM} {sl : Sl} : E.chk C m o sl = (o sl).chk C m := by
  unfold E.chk Res.chk chkO
  all_goals rfl
def makeB (n : Nat) (os : List Op) (sl : Sl) : FRes → Res Op
  | .ok (.val .non) (m' :: ms') => if ms'.length + 1 = n then .ok (.tmp m') (giveb sl os ms' sl) else .stuck
  | _ => .stuck
@[simp] theorem makeB_ok {n : Nat} {os : List Op} {sl : Sl} {m : MV} {ms : List MV} : makeB n os sl (.ok (.val .non) (m :: ms)) = if ms.length + 1 = n then .ok (.tmp m) (giveb sl os ms sl) else .stuck := rfl
def makeO (C : Addr) (n : Nat) (g : FM) (os : List Op) (sl : Sl) : Option (List MV) → Res Op
  | some ms => if os.length + 1 = n ∧ (ownSl sl os).Nodup then makeB n os sl (g (.obj C [] [] :: ms)) else .stuck
  | none => .stuck
@[simp] theorem makeO_s {C : Addr} {n : Nat} {g : FM} {os : List Op} {sl : Sl} {ms : List MV} : makeO C n g os sl (some ms) = if os.length + 1 = n ∧ (ownSl sl os).Nodup then makeB n os sl (g (.obj C [] [] :: ms)) else .stuck := rfl
def Res.make (r : Res (List Op)) (C : Addr) (n : Nat) (g : FM) : Res Op := r.bind fun os sl => makeO C n g os sl (conts sl os)
@[simp] theorem Res.make_ok {os : List Op} {sl : Sl} {C : Addr} {n : Nat} {g : FM} : (Res.ok os sl).make C n g = makeO C n g os sl (conts sl os) := rfl
@[simp] theorem E.make_eq {C : Addr} {n : Nat} {g : FM} {as : AM} {sl : Sl} : E.make C n g as sl = (as sl).make C n g := by
  unfold E.make Res.make makeO makeB
  all_goals rfl
def setjN (i : Nat) (d : DV) (xs : List DV) (sl : Sl) : Option Nat → SRes
  | some j => .nx (sl.set i (some (.lst (xs.set j d))))
  | none => .stuck
@[simp] theorem setjN_s {i j : Nat} {d : DV} {xs : List DV} {sl : Sl} : setjN i d xs sl (some j) = .nx (sl.set i (some (.lst (xs.set j d)))) := rfl
def setjG (i : Nat) (d : DV) (sl : Sl) : Option DV → Option (Option MV) → SRes
  | some (.int k), some (some (.lst xs)) => setjN i d xs sl (ixN xs.length k)
  | _, _ => .stuck
@[simp] theorem setjG_s {i : Nat} {d : DV} {sl : Sl} {k : Int} {xs : List DV} : setjG i d sl (some (.int k)) (some (some (.lst xs))) = setjN i d xs sl (ixN xs.length k) := rfl
def Res.setj (r : Res Op) (i : Nat) (d : DV) : SRes := r.s fun p sl => setjG i d sl (p.view sl) sl[i]?
@[simp] theorem Res.setj_ok {p : Op} {sl : Sl} {i : Nat} {d : DV} : (Res.ok p sl).setj i d = setjG i d sl (p.view sl) sl[i]? := rfl
def setiP (i : Nat) (ix : EM) : Option (DV × Sl) → SRes
  | some (d, sl) => if isLst sl i = true then (ix sl).setj i d else .stuck
  | none => .stuck
@[simp] theorem setiP_s {i : Nat} {ix : EM} {d : DV} {sl : Sl} : setiP i ix (some (d, sl)) = if isLst sl i = true then (ix sl).setj i d else .stuck := rfl
def Res.seti (r : Res Op) (i : Nat) (ix : EM) : SRes := r.s fun o sl => setiP i ix (settle1 o sl)
@[simp] theorem Res.seti_ok {o : Op} {sl : Sl} {i : Nat} {ix : EM} : (Res.ok o sl).seti i ix = setiP i ix (settle1 o sl) := rfl
@[simp] theorem S.seti_eq {i : Nat} {ix v : EM} {sl : Sl} : S.seti i ix v sl = (v sl).seti i ix := by
  unfold S.seti Res.seti setiP Res.setj setjG setjN
  all_goals rfl
theorem ixN_n {n k : Nat} (h : k < n) : ixN n (k : Int) = some k := by
  unfold ixN
  rw [if_pos (by omega), if_pos (by omega)]
  simp
theorem ixN_at {n : Nat} {k : Int} (h0 : 0 ≤ k) (h : k < n) : ixN n k = some k.toNat := by
  unfold ixN
  rw [if_pos h0, if_pos h]
/-- a, a - 1, .. (n of them) -/
def dns (a n : Int) : List DV := (List.range n.toNat).map fun (i : Nat) => .int (a - i)
@[simp] theorem dns_len {a n : Int} : (dns a n).length = n.toNat := by simp [dns]
theorem dns_get {a n : Int} {i : Nat} {d : DV} (h : (dns a n)[i]? = some d) : d = .int (a - i) ∧ i < n.toNat := by
  unfold dns at h
  rw [List.getElem?_map] at h
  by_cases hi : i < n.toNat
  · rw [List.getElem?_range hi] at h
    cases h
    exact ⟨rfl, hi⟩
  · rw [List.getElem?_eq_none (by simpa using hi)] at h
    cases h
noncomputable def rngDO (sl : Sl) : Option (List DV) → Res (List DV)
  | some [.int a, .int b, .int c] => if c = -1 ∧ small62 a ∧ small62 b then .ok (dns a (a - b)) sl else .stuck
  | _ => .stuck
@[simp] theorem rngDO_s {a b c : Int} {sl : Sl} : rngDO sl (some [.int a, .int b, .int c]) = if c = -1 ∧ small62 a ∧ small62 b then .ok (dns a (a - b)) sl else .stuck := rfl
noncomputable def Res.rngD (r : Res (List Op)) : Res (List DV) := r.bind fun os sl => rngDO sl (views sl os)
@[simp] theorem Res.rngD_ok {os : List Op} {sl : Sl} : (Res.ok os sl).rngD = rngDO sl (views sl os) := rfl
@[simp] theorem I.rngD_eq {as : AM} {sl : Sl} : I.rngD as sl = (as sl).rngD := by
  unfold I.rngD Res.rngD rngDO dns
  all_goals rfl
noncomputable def revO (sl : Sl) : Option DV → Res (List DV)
  | some (.int n) => if small62 n then .ok (dns (n - 1) n) sl else .stuck
  | _ => .stuck
@[simp] theorem revO_s {n : Int} {sl : Sl} : revO sl (some (.int n)) = if small62 n then .ok (dns (n - 1) n) sl else .stuck := rfl
noncomputable def Res.revR (r : Res Op) : Res (List DV) := r.bind fun o sl => revO sl (o.view sl)
@[simp] theorem Res.revR_ok {o : Op} {sl : Sl} : (Res.ok o sl).revR = revO sl (o.view sl) := rfl
@[simp] theorem I.revR1_eq {m : EM} {sl : Sl} : I.revR1 m sl = (m sl).revR := by
  unfold I.revR1 Res.revR revO dns
  all_goals rfl
@[simp] theorem min2D_int {i j : Int} : min2D [.int i, .int j] = it (if j < i then j else i) := rfl
@[simp] theorem max2D_int {i j : Int} : max2D [.int i, .int j] = it (if j > i then j else i) := rfl
theorem minD_ints {ns : List Int} (h : ns ≠ []) : minD [.lst (ns.map DV.int)] = it (minL ns) := by
  unfold minD
  simp only [intsOf_map, Option.bind_some, if_neg h]
theorem maxD_ints {ns : List Int} (h : ns ≠ []) : maxD [.lst (ns.map DV.int)] = it (maxL ns) := by
  unfold maxD
  simp only [intsOf_map, Option.bind_some, if_neg h]
@[simp] theorem inD_ints {x : Int} {ns : List Int} : inD (.int x) (.lst (ns.map DV.int)) = bl (decide (x ∈ ns)) := by
  unfold inD
  simp only [intsOf_map, Option.bind_some]
@[simp] theorem ninD_ints {x : Int} {ns : List Int} : ninD (.int x) (.lst (ns.map DV.int)) = bl (!decide (x ∈ ns)) := by
  unfold ninD
  simp only [intsOf_map, Option.bind_some]
@[simp] theorem fn_eq5 {k : Nat} {as : List Nat} {b : SM} {x1 x2 x3 x4 x5 : MV} : fn 5 k as b [x1, x2, x3, x4, x5] = (b (some x1 :: some x2 :: some x3 :: some x4 :: some x5 :: List.replicate k none)).fend as [x1, x2, x3, x4, x5] := fn_eq rfl
@[simp] theorem fn_eq6 {k : Nat} {as : List Nat} {b : SM} {x1 x2 x3 x4 x5 x6 : MV} : fn 6 k as b [x1, x2, x3, x4, x5, x6] = (b (some x1 :: some x2 :: some x3 :: some x4 :: some x5 :: some x6 :: List.replicate k none)).fend as [x1, x2, x3, x4, x5, x6] := fn_eq rfl
@[simp] theorem fn_eq7 {k : Nat} {as : List Nat} {b : SM} {x1 x2 x3 x4 x5 x6 x7 : MV} : fn 7 k as b [x1, x2, x3, x4, x5, x6, x7] = (b (some x1 :: some x2 :: some x3 :: some x4 :: some x5 :: some x6 :: some x7 :: List.replicate k none)).fend as [x1, x2, x3, x4, x5, x6, x7] := fn_eq rfl
@[simp] theorem fn_eq8 {k : Nat} {as : List Nat} {b : SM} {x1 x2 x3 x4 x5 x6 x7 x8 : MV} : fn 8 k as b [x1, x2, x3, x4, x5, x6, x7, x8] = (b (some x1 :: some x2 :: some x3 :: some x4 :: some x5 :: some x6 :: some x7 :: some x8 :: List.replicate k none)).fend as [x1, x2, x3, x4, x5, x6, x7, x8] := fn_eq rfl
/-- the classes' addresses by their numbers -/
def csOf (l : List Addr) : Nat → Addr := fun n => l.getD n 0
/-- a law's promise, whatever the classes' addresses -/
def spA (K : PySem.W.Frag) (g : (Nat → Addr) → FM) : Sp := fun vs H Q E => ∀ cs, spF K 1 (g cs) vs H Q E
end Sy
namespace Sy
open PySem PySem.Spec PyProof.Rows L2
/-! ### lines on pages: the defs of four laws -/
noncomputable def m_pblk_1 : EM := (E.call 2 r_block1 (A.cons (E.var 0) (A.cons (E.var 3) A.nil)))
noncomputable def b_pblk : SM := (S.ret 4 (E.lc (I.rng1 (A.cons (E.bin addD (E.var 1) (E.call 2 r_take1 (A.cons (E.var 0) (A.cons (E.bin addD (E.bin subD (E.var 2) (E.var 1)) (E.c (.int 1))) A.nil)))) A.nil)) (.nm 4) T.yes m_pblk_1 [4]))
noncomputable def r_pblk : FM := fn 4 1 [] b_pblk
noncomputable def l_pcnt_1 : SM := (S.ife (T.val (E.bin eqD (E.bin ixD (E.var 3) (E.c (.int 0))) (E.c (.str "break")))) (S.expr (E.mth appF 2 (A.cons (E.c (.int 1)) A.nil))) (S.expr (E.mth appF 2 (A.cons (E.bin addD (E.c (.int 1)) (E.call 2 r_take1 (A.cons (E.var 0) (A.cons (E.c (.int 6)) A.nil)))) A.nil))))
noncomputable def b_pcnt : SM := (S.seq (S.asg 2 (E.lst A.nil))
    (S.seq (S.forr (I.lst (E.var 1)) (.nm 3) l_pcnt_1)
    (S.ret 2 (E.var 2))))
noncomputable def r_pcnt : FM := fn 2 2 [2, 3] b_pcnt
noncomputable def m_pown_1 : EM := (E.tup (A.cons (E.var 2) (A.cons (E.var 3) A.nil)))
noncomputable def l_pown_1 : SM := (S.asg 1 (E.bin addD (E.var 1) (E.lc (I.rng1 (A.cons (E.bin ixD (E.var 0) (E.var 2)) A.nil)) (.nm 3) T.yes m_pown_1 [3])))
noncomputable def b_pown : SM := (S.seq (S.asg 1 (E.lst A.nil))
    (S.seq (S.forr (I.rng1 (A.cons (E.app lenD (A.cons (E.var 0) A.nil)) A.nil)) (.nm 2) l_pown_1)
    (S.ret 1 (E.var 1))))
noncomputable def r_pown : FM := fn 1 3 [1, 2] b_pown
noncomputable def b_pmay : SM := (S.seq (S.asg 3 (E.call 1 r_pown (A.cons (E.var 1) A.nil)))
    (S.seq (S.asg 4 (E.bin ixD (E.var 3) (E.bin subD (E.var 2) (E.c (.int 1)))))
    (S.seq (S.asg 5 (E.bin ixD (E.bin ixD (E.var 0) (E.bin ixD (E.var 4) (E.c (.int 0)))) (E.c (.int 0))))
    (S.seq (S.ife (T.or (T.val (E.bin eqD (E.var 2) (E.app lenD (A.cons (E.var 3) A.nil)))) (T.val (E.bin eqD (E.var 5) (E.c (.str "break"))))) (S.ret 3 (E.c (.bl true))) S.nil)
    (S.seq (S.ife (T.val (E.bin eqD (E.var 5) (E.c (.str "head")))) (S.ret 3 (E.c (.bl false))) S.nil)
    (S.seq (S.ife (T.val (E.bin neD (E.bin ixD (E.bin ixD (E.var 3) (E.var 2)) (E.c (.int 0))) (E.bin ixD (E.var 4) (E.c (.int 0))))) (S.ret 3 (E.c (.bl true))) S.nil)
    (S.ret 3 (E.and (E.bin neD (E.bin ixD (E.bin ixD (E.var 3) (E.var 2)) (E.c (.int 1))) (E.c (.int 1))) (E.bin neD (E.bin ixD (E.bin ixD (E.var 3) (E.var 2)) (E.c (.int 1))) (E.bin subD (E.bin ixD (E.var 1) (E.bin ixD (E.var 4) (E.c (.int 0)))) (E.c (.int 1))))))))))))
noncomputable def r_pmay : FM := fn 3 3 [3, 4, 5] b_pmay
noncomputable def l_pend_1 : SM := (S.seq (S.ife (T.tru (E.call 3 r_pmay (A.cons (E.var 1) (A.cons (E.var 2) (A.cons (E.var 6) A.nil))))) (S.expr (E.mth appF 5 (A.cons (E.var 6) A.nil))) S.nil)
    (S.ife (T.val (E.bin eqD (E.bin ixD (E.bin ixD (E.var 1) (E.bin ixD (E.bin ixD (E.var 4) (E.bin subD (E.var 6) (E.c (.int 1)))) (E.c (.int 0)))) (E.c (.int 0))) (E.c (.str "break")))) (S.ret 4 (E.var 5)) S.nil))
noncomputable def b_pend : SM := (S.seq (S.asg 4 (E.call 1 r_pown (A.cons (E.var 2) A.nil)))
    (S.seq (S.asg 5 (E.lst A.nil))
    (S.seq (S.forr (I.rng2 (A.cons (E.bin addD (E.var 3) (E.c (.int 1))) (A.cons (E.bin addD (E.app min2D (A.cons (E.app lenD (A.cons (E.var 4) A.nil)) (A.cons (E.bin subD (E.bin addD (E.var 3) (E.var 0)) (E.c (.int 1))) A.nil))) (E.c (.int 1))) A.nil))) (.nm 6) l_pend_1)
    (S.ret 4 (E.var 5)))))
noncomputable def r_pend : FM := fn 4 3 [4, 5, 6] b_pend
noncomputable def b_pcost : SM := (S.seq (S.asg 5 (E.call 1 r_pown (A.cons (E.var 2) A.nil)))
    (S.seq (S.ife (T.or (T.val (E.bin eqD (E.var 4) (E.app lenD (A.cons (E.var 5) A.nil)))) (T.val (E.bin eqD (E.bin ixD (E.bin ixD (E.var 1) (E.bin ixD (E.bin ixD (E.var 5) (E.bin subD (E.var 4) (E.c (.int 1)))) (E.c (.int 0)))) (E.c (.int 0))) (E.c (.str "break"))))) (S.ret 5 (E.c (.int 0))) S.nil)
    (S.ret 5 (E.bin mulD (E.bin addD (E.bin subD (E.bin subD (E.var 0) (E.c (.int 1))) (E.var 4)) (E.var 3)) (E.bin addD (E.bin subD (E.bin subD (E.var 0) (E.c (.int 1))) (E.var 4)) (E.var 3))))))
noncomputable def r_pcost : FM := fn 5 1 [5] b_pcost
noncomputable def m_pleast_1 : EM := (E.c .non)
noncomputable def l_pleast_1 : SM := (S.ife (T.val (E.bin isntD (E.bin ixD (E.var 4) (E.var 6)) (E.c .non))) (S.seq (S.asg 7 (E.bin addD (E.call 5 r_pcost (A.cons (E.var 0) (A.cons (E.var 1) (A.cons (E.var 2) (A.cons (E.var 5) (A.cons (E.var 6) A.nil)))))) (E.bin ixD (E.var 4) (E.var 6))))
    (S.ife (T.or (T.val (E.bin isD2 (E.bin ixD (E.var 4) (E.var 5)) (E.c .non))) (T.val (E.bin ltD (E.var 7) (E.bin ixD (E.var 4) (E.var 5))))) (S.seti 4 (E.var 5) (E.var 7)) S.nil)) S.nil)
noncomputable def l_pleast_2 : SM := (S.forr (I.lst (E.call 4 r_pend (A.cons (E.var 0) (A.cons (E.var 1) (A.cons (E.var 2) (A.cons (E.var 5) A.nil)))))) (.nm 6) l_pleast_1)
noncomputable def b_pleast : SM := (S.seq (S.asg 3 (E.app sumD (A.cons (E.var 2) A.nil)))
    (S.seq (S.asg 4 (E.bin addD (E.lc (I.rng1 (A.cons (E.var 3) A.nil)) (.nm 8) T.yes m_pleast_1 [8]) (E.lst (A.cons (E.c (.int 0)) A.nil))))
    (S.seq (S.forr (I.revR1 (E.var 3)) (.nm 5) l_pleast_2)
    (S.ret 3 (E.var 4)))))
noncomputable def r_pleast : FM := fn 3 6 [3, 4, 5, 6, 7] b_pleast
noncomputable def i_plo_1 : IM := (I.rng1 (A.cons (E.var 2) A.nil))
noncomputable def m_plo_1 : EM := (E.tup (A.cons (E.var 1) (A.cons (E.var 3) A.nil)))
noncomputable def b_plo : SM := (S.ret 1 (E.lc2 (I.enum (A.cons (E.var 0) A.nil)) (.tp [(.nm 1), (.nm 2)]) T.yes i_plo_1 (.nm 3) T.yes m_plo_1 [1, 2, 3] [3]))
noncomputable def r_plo : FM := fn 1 3 [] b_plo
noncomputable def b_pstop : SM := (S.ret 3 (E.bin eqD (E.bin ixD (E.bin ixD (E.var 0) (E.bin ixD (E.bin ixD (E.var 1) (E.var 2)) (E.c (.int 0)))) (E.c (.int 0))) (E.c (.str "break"))))
noncomputable def r_pstop : FM := fn 3 0 [] b_pstop
noncomputable def b_pme : SM := (S.seq (S.asg 3 (E.call 1 r_plo (A.cons (E.var 1) A.nil)))
    (S.seq (S.ife (T.or (T.val (E.bin eqD (E.var 2) (E.app lenD (A.cons (E.var 3) A.nil)))) (T.tru (E.call 3 r_pstop (A.cons (E.var 0) (A.cons (E.var 3) (A.cons (E.bin subD (E.var 2) (E.c (.int 1))) A.nil)))))) (S.ret 3 (E.c (.bl true))) S.nil)
    (S.seq (S.asg 4 (E.bin ixD (E.bin ixD (E.var 3) (E.bin subD (E.var 2) (E.c (.int 1)))) (E.c (.int 0))))
    (S.seq (S.ife (T.val (E.bin eqD (E.bin ixD (E.bin ixD (E.var 0) (E.var 4)) (E.c (.int 0))) (E.c (.str "head")))) (S.ret 3 (E.c (.bl false))) S.nil)
    (S.seq (S.ife (T.val (E.bin neD (E.bin ixD (E.bin ixD (E.var 3) (E.var 2)) (E.c (.int 0))) (E.var 4))) (S.ret 3 (E.c (.bl true))) S.nil)
    (S.ret 3 (E.chain ltD ltD (E.c (.int 1)) (E.bin ixD (E.bin ixD (E.var 3) (E.var 2)) (E.c (.int 1))) (E.bin subD (E.bin ixD (E.var 1) (E.var 4)) (E.c (.int 1))))))))))
noncomputable def r_pme : FM := fn 3 2 [3, 4] b_pme
noncomputable def m_linit_1 : EM := (E.call 3 r_pme (A.cons (E.var 2) (A.cons (E.var 3) (A.cons (E.var 4) A.nil))))
noncomputable def b_linit (C : Addr) : SM := (S.seq (S.setf C "room" 0 (E.bin subD (E.var 1) (E.c (.int 1))))
    (S.seq (S.setf C "blocks" 0 (E.var 2))
    (S.seq (S.setf C "owners" 0 (E.call 1 r_plo (A.cons (E.var 3) A.nil)))
    (S.seq (S.setf C "total" 0 (E.app lenD (A.cons (E.un (fldD C "owners") (E.var 0)) A.nil)))
    (S.setf C "allowed" 0 (E.bin addD (E.lst (A.cons (E.c (.bl false)) A.nil)) (E.lc (I.rng2 (A.cons (E.c (.int 1)) (A.cons (E.bin addD (E.un (fldD C "total") (E.var 0)) (E.c (.int 1))) A.nil))) (.nm 4) T.yes m_linit_1 [4])))))))
noncomputable def r_linit (C : Addr) : FM := fn 4 1 [] (b_linit C)
noncomputable def b_lcost (C : Addr) : SM := (S.seq (S.ife (T.or (T.val (E.bin eqD (E.var 2) (E.un (fldD C "total") (E.var 0)))) (T.tru (E.call 3 r_pstop (A.cons (E.un (fldD C "blocks") (E.var 0)) (A.cons (E.un (fldD C "owners") (E.var 0)) (A.cons (E.bin subD (E.var 2) (E.c (.int 1))) A.nil)))))) (S.ret 3 (E.c (.int 0))) S.nil)
    (S.ret 3 (E.bin powD (E.bin addD (E.bin subD (E.un (fldD C "room") (E.var 0)) (E.var 2)) (E.var 1)) (E.c (.int 2)))))
noncomputable def r_lcost (C : Addr) : FM := fn 3 0 [] (b_lcost C)
noncomputable def l_lends_1 (C : Addr) : SM := (S.seq (S.ife (T.tru (E.bin ixD (E.un (fldD C "allowed") (E.var 0)) (E.var 3))) (S.expr (E.mth appF 2 (A.cons (E.var 3) A.nil))) S.nil)
    (S.ife (T.tru (E.call 3 r_pstop (A.cons (E.un (fldD C "blocks") (E.var 0)) (A.cons (E.un (fldD C "owners") (E.var 0)) (A.cons (E.bin subD (E.var 3) (E.c (.int 1))) A.nil))))) (S.ret 2 (E.var 2)) S.nil))
noncomputable def b_lends (C : Addr) : SM := (S.seq (S.asg 2 (E.lst A.nil))
    (S.seq (S.forr (I.rng2 (A.cons (E.bin addD (E.var 1) (E.c (.int 1))) (A.cons (E.bin addD (E.app min2D (A.cons (E.un (fldD C "total") (E.var 0)) (A.cons (E.bin addD (E.var 1) (E.un (fldD C "room") (E.var 0))) A.nil))) (E.c (.int 1))) A.nil))) (.nm 3) (l_lends_1 C))
    (S.ret 2 (E.var 2))))
noncomputable def r_lends (C : Addr) : FM := fn 2 2 [2, 3] (b_lends C)
/-! ### blocks, counts, owners -/
def IsL (m : MV) (xs : List DV) : Prop := m = .val (.lst xs) ∨ m = .lst xs
theorem blocks_ok (xs : List Int) (lo hi m : Int) (h0 : 0 < m) (h1 : m ≤ 100) (hlo : 0 ≤ lo) (hhi : lo ≤ hi) (h9 : hi ≤ 100) : ∃ (bs : List Blk) (ys : List Int), (∀ b ∈ bs, b.ok) ∧ bs.length ≤ hi ∧ lo ≤ bs.length ∧
    r_pblk [IL xs, .val (.int lo), .val (.int hi), .val (.int m)] = .ok (.lst (bs.map Blk.d)) [IL ys, .val (.int lo), .val (.int hi), .val (.int m)] := by
  obtain ⟨v, xs1, v0, v1, e1⟩ := take1 (xs := xs) (b := hi - lo + 1) (by omega)
  obtain ⟨acc, s, e2, bs, ys, rfl, hl, hb, rfl⟩ := lcl_inv (p := .nm 4) (c := T.yes) (m := m_pblk_1) (ws := [4]) (fun k acc s => ∃ (bs : List Blk) (ys : List Int), acc = bs.map Blk.d ∧ bs.length = k ∧ (∀ b ∈ bs, b.ok) ∧ s = [some (IL ys), some (.val (.int lo)), some (.val (.int hi)), some (.val (.int m)), none]) (ups 0 (lo + v)) 0 [] [some (IL xs1), some (.val (.int lo)), some (.val (.int hi)), some (.val (.int m)), none] ⟨[], xs1, rfl, rfl, by simp, rfl⟩ (by
    rintro i d acc s hd ⟨bs, ys, rfl, hl, hb, rfl⟩
    obtain ⟨rfl, hi'⟩ := ups_get hd
    obtain ⟨b, ys', bo, e⟩ := block1_ok ys m h0 h1
    refine ⟨[some (IL ys), some (.val (.int lo)), some (.val (.int hi)), some (.val (.int m)), some (.val (.int (0 + i)))], by simp, .inl ⟨_, .tmp (.val b.d), [some (IL ys'), some (.val (.int lo)), some (.val (.int hi)), some (.val (.int m)), some (.val (.int (0 + i)))], b.d, [some (IL ys'), some (.val (.int lo)), some (.val (.int hi)), some (.val (.int m)), some (.val (.int (0 + i)))], rfl, ?_, rfl, bs ++ [b], ys', by simp, by simp; omega, ?_, by simp⟩⟩
    · simp [m_pblk_1, e]
    · intro a ha
      rcases List.mem_append.mp ha with h | h
      · exact hb a h
      · simp at h; subst h; exact bo)
  rw [ups_len] at hl
  refine ⟨bs, ys, hb, by omega, by omega, ?_⟩
  have g1 : 0 ≤ lo + v := by omega
  have g2 : lo + v ≤ 4000000000 := by omega
  have g3 : lo.toNat + v.toNat ≤ 10000000 := by omega
  have g4 : (lo + v).toNat ≤ 10000000 := by omega
  simp [r_pblk, b_pblk, e1, e2, g1, g2, g3, g4]
abbrev NL (cs : List Nat) : List DV := cs.map fun (c : Nat) => DV.int (c : Int)
theorem counts_ok (xs : List Int) (bs : List Blk) (hl : bs.length ≤ 100) : ∃ (cs : List Nat) (ys : List Int), cs.length = bs.length ∧ (∀ c ∈ cs, 1 ≤ c ∧ c ≤ 6) ∧
    r_pcnt [IL xs, .lst (bs.map Blk.d)] = .ok (.lst (NL cs)) [IL ys, .val (.lst (bs.map Blk.d))] := by
  obtain ⟨s, e, cs, ys, w3, h1, h2, rfl⟩ := loop_inv (p := .nm 3) (b := l_pcnt_1) (fun k s => ∃ (cs : List Nat) (ys : List Int) (w3 : Option MV), cs.length = k ∧ (∀ c ∈ cs, 1 ≤ c ∧ c ≤ 6) ∧ s = [some (IL ys), some (.val (.lst (bs.map Blk.d))), some (.lst (NL cs)), w3]) (bs.map Blk.d) 0 [some (IL xs), some (.val (.lst (bs.map Blk.d))), some (.lst []), none] ⟨[], xs, none, rfl, by simp, rfl⟩ (by
    rintro i d s hd ⟨cs, ys, w3, h1, h2, rfl⟩
    have hi : i < bs.length := by
      have := (List.getElem?_eq_some_iff.mp hd).1
      simpa using this
    obtain ⟨b, hb, rfl⟩ : ∃ b, bs[i]? = some b ∧ d = b.d := by
      rw [List.getElem?_map] at hd
      cases hc : bs[i]? with
      | none => rw [hc] at hd; cases hd
      | some c => rw [hc] at hd; cases hd; exact ⟨c, rfl, rfl⟩
    have n1 : eqD (.str b.kind) (.str ("break" : String)) = bl (decide (b.kind = ("break" : String))) := eqD_str (strOk_kind b) (strOk_kind .brk)
    have g1 : cs.length ≤ 10000000 := by omega
    have b0 := b.at0
    by_cases hk : b.kind = ("break" : String)
    · refine ⟨[some (IL ys), some (.val (.lst (bs.map Blk.d))), some (.lst (NL cs)), some (.val b.d)], [some (IL ys), some (.val (.lst (bs.map Blk.d))), some (.lst (NL (cs ++ [1]))), some (.val b.d)], by simp, .inl ?_, cs ++ [1], ys, some (.val b.d), by simp; omega, ?_, rfl⟩
      · rw [hk] at b0
        have n2 := eqD_str (strOk_kind .brk) (strOk_kind .brk)
        simp only [Blk.kind] at n2
        simp [l_pcnt_1, b0, n2, g1, NL]
      · intro c hc
        rcases List.mem_append.mp hc with h | h
        · exact h2 c h
        · simp at h; omega
    · obtain ⟨v, ys', v0, v1, e⟩ := take1 (xs := ys) (b := 6) (by omega)
      obtain ⟨n, rfl⟩ : ∃ n : Nat, v = n := ⟨v.toNat, by omega⟩
      refine ⟨[some (IL ys), some (.val (.lst (bs.map Blk.d))), some (.lst (NL cs)), some (.val b.d)], [some (IL ys'), some (.val (.lst (bs.map Blk.d))), some (.lst (NL (cs ++ [1 + n]))), some (.val b.d)], by simp, .inl ?_, cs ++ [1 + n], ys', some (.val b.d), by simp; omega, ?_, rfl⟩
      · have n2 : eqD (.str b.kind) (.str ("break" : String)) = bl false := by rw [n1, decide_eq_false hk]
        simp [l_pcnt_1, b0, n2, g1, NL, e]
      · intro c hc
        rcases List.mem_append.mp hc with h | h
        · exact h2 c h
        · simp at h; omega)
  refine ⟨cs, ys, by simpa using h1, h2, ?_⟩
  simp [IL, NL] at e
  simp [r_pcnt, b_pcnt, IL, NL, e]
/-! the owners of the lines -/
def pD (p : Nat × Nat) : DV := .tup [.int p.1, .int p.2]
def gt (cs : List Nat) (k : Nat) : Nat := cs.getD k 0
theorem gt_le {cs : List Nat} (h : ∀ c ∈ cs, 1 ≤ c ∧ c ≤ 6) (k : Nat) : gt cs k ≤ 6 := by
  unfold gt
  rw [List.getD_eq_getElem?_getD]
  cases hc : cs[k]? with
  | none => simp
  | some c => have := h c (List.mem_of_getElem? hc); simpa using this.2
theorem gt_get {cs : List Nat} {k : Nat} (h : k < cs.length) : cs[k]? = some (gt cs k) := by
  unfold gt
  rw [List.getD_eq_getElem?_getD, List.getElem?_eq_getElem h]
  rfl
def rowN (cs : List Nat) (k : Nat) : List (Nat × Nat) := (List.range (gt cs k)).map fun p => (k, p)
def owners (cs : List Nat) : List (Nat × Nat) := (List.range cs.length).flatMap (rowN cs)
theorem own_len (cs : List Nat) (l : List Nat) (h : ∀ c ∈ cs, 1 ≤ c ∧ c ≤ 6) : (l.flatMap (rowN cs)).length ≤ 6 * l.length := by
  induction l with
  | nil => simp
  | cons k l ih =>
    have := gt_le h k
    simp [rowN] at ih ⊢
    omega
theorem line_in (k c : Nat) (m0 : MV) (acc : List DV) (hc : c ≤ 10000000) : lcl (.nm 3) T.yes m_plo_1 [3] (ups 0 c) acc [some m0, some (.val (.int k)), some (.val (.int c)), none] = .ok (acc ++ ((List.range c).map fun p => pD (k, p))) [some m0, some (.val (.int k)), some (.val (.int c)), none] := by
  have q := lcl_read (i := 3) (m := m_plo_1) (b := [some m0, some (.val (.int k)), some (.val (.int c)), none]) (fun d => .tup [.int k, d]) (ups 0 c) acc (by simp) (by simp) (by
    intro d hd
    exact ⟨.val (.tup [.int k, d]), by simp [m_plo_1], rfl⟩)
  rw [q]
  congr 2
  simp [ups, pD]
theorem line_lcl2 (cs : List Nat) (hcs : ∀ c ∈ cs, 1 ≤ c ∧ c ≤ 6) (m0 : MV) : ∀ (l : List Nat) (acc : List DV), acc.length + 6 * l.length ≤ 10000000 →
    lcl2 (.tp [.nm 1, .nm 2]) T.yes i_plo_1 (.nm 3) T.yes m_plo_1 [1, 2, 3] [3] (l.map fun (k : Nat) => .tup [.int (k : Int), .int (gt cs k)]) acc [some m0, none, none, none] = .ok (acc ++ (l.flatMap (rowN cs)).map pD) [some m0, none, none, none]
  | [], acc, h => by simp [lcl2]
  | k :: l, acc, h => by
    have hc := gt_le hcs k
    generalize hcc : gt cs k = c at hc
    have q := line_in k c m0 acc (by omega)
    have ih := line_lcl2 cs hcs m0 l (acc ++ ((List.range c).map fun p => pD (k, p))) (by simp at h ⊢; omega)
    have g1 : (c : Int) ≤ 4000000000 := by omega
    have g2 : acc.length + c ≤ 10000000 := by simp at h; omega
    have hi : i_plo_1 [some m0, some (.val (.int k)), some (.val (.int c)), none] = .ok (ups 0 c) [some m0, some (.val (.int k)), some (.val (.int c)), none] := by simp [i_plo_1, g1]
    rw [List.map_cons, lcl2, hcc]
    simp [hi, g2, q]
    rw [ih]
    congr 1
    simp [rowN, hcc]
theorem numbered_NL (cs : List Nat) : Sy.numbered (NL cs) = (List.range cs.length).map fun (k : Nat) => .tup [.int (k : Int), .int (gt cs k)] := by
  unfold Sy.numbered
  rw [List.length_map]
  refine List.map_congr_left fun k hk => ?_
  have hk : k < cs.length := by simpa using hk
  have := gt_get hk
  rw [List.getElem?_eq_getElem hk] at this
  have := Option.some.inj this
  simp [List.getD_eq_getElem?_getD, hk, this]
theorem line_owners_ok (cs : List Nat) (hl : cs.length ≤ 100) (hcs : ∀ c ∈ cs, 1 ≤ c ∧ c ≤ 6) {m : MV} (hm : IsL m (NL cs)) : r_plo [m] = .ok (.lst ((owners cs).map pD)) [.val (.lst (NL cs))] := by
  have q := line_lcl2 cs hcs (.val (.lst (NL cs))) (List.range cs.length) [] (by simp; omega)
  have g1 : cs.length ≤ 10000000 := by omega
  simp at q
  rcases hm with rfl | rfl <;> simp [r_plo, b_plo, numbered_NL, g1, q, owners]
theorem law_own_in (k c : Nat) (x0 x1 : Option MV) (hc : c ≤ 10000000) : lcl (.nm 3) T.yes m_pown_1 [3] (ups 0 c) [] [x0, x1, some (.val (.int k)), none] = .ok ((List.range c).map fun p => pD (k, p)) [x0, x1, some (.val (.int k)), none] := by
  have q := lcl_read (i := 3) (m := m_pown_1) (b := [x0, x1, some (.val (.int k)), none]) (fun d => .tup [.int k, d]) (ups 0 c) [] (by simp) (by simp) (by
    intro d hd
    exact ⟨.val (.tup [.int k, d]), by simp [m_pown_1], rfl⟩)
  rw [q]
  congr 1
  simp [ups, pD]
theorem law_owners_ok (cs : List Nat) (hl : cs.length ≤ 100) (hcs : ∀ c ∈ cs, 1 ≤ c ∧ c ≤ 6) {m : MV} (hm : IsL m (NL cs)) : r_pown [m] = .ok (.lst ((owners cs).map pD)) [m]   := by
  have hv : m.view = .lst (NL cs) := by rcases hm with rfl | rfl <;> rfl
  obtain ⟨s, e, w2, rfl⟩ := loop_inv (p := .nm 2) (b := l_pown_1) (fun k s => ∃ (w2 : Option MV), s = [some m, some (.lst (((List.range k).flatMap (rowN cs)).map pD)), w2, none]) (ups 0 cs.length) 0 [some m, some (.lst []), none, none] ⟨none, by simp⟩ (by
    rintro i d s hd ⟨w2, rfl⟩
    obtain ⟨rfl, hi⟩ := ups_get hd
    have hi : i < cs.length := by simpa using hi
    have hc := gt_le hcs i
    have hat : atI (NL cs) (i : Int) = some (.int (gt cs i)) := by rw [atI_n, List.getElem?_map, gt_get hi]; rfl
    generalize hcc : gt cs i = c at hc hat
    have hol := own_len cs (List.range i) hcs
    simp only [List.length_range] at hol
    generalize hA : ((List.range i).flatMap (rowN cs)) = A at hol
    have q := law_own_in i c (some m) (some (.lst (A.map pD))) (by omega)
    have g1 : (c : Int) ≤ 4000000000 := by omega
    have g2 : c ≤ 10000000 := by omega
    have g3 : A.length + c ≤ sizeLine := le_size (by omega)
    refine ⟨[some m, some (.lst (A.map pD)), some (.val (.int i)), none], [some m, some (.lst (((List.range (i + 1)).flatMap (rowN cs)).map pD)), some (.val (.int i)), none], by simp [hA], .inl ?_, some (.val (.int i)), by simp⟩
    have hR : ((List.range (i + 1)).flatMap (rowN cs)).map pD = A.map pD ++ ((List.range c).map fun p => pD (i, p)) := by
      rw [List.range_succ, List.flatMap_append, hA]
      simp [rowN, hcc]
    rw [hR]
    simp [NL] at hat hv
    simp [l_pown_1, NL, hv, hat, g1, g2, g3, q])
  rw [ups_len] at e
  have g1 : (cs.length : Int) ≤ 4000000000 := by omega
  simp [NL] at e hv
  simp [r_pown, b_pown, NL, hv, g1, e, owners]
theorem owners_pw (cs : List Nat) : (owners cs).Pairwise fun a b => a.1 < b.1 ∨ (a.1 = b.1 ∧ a.2 < b.2) := by
  unfold owners
  rw [List.pairwise_flatMap]
  refine ⟨fun k _ => ?_, ?_⟩
  · unfold rowN
    rw [List.pairwise_map]
    exact List.Pairwise.imp (fun h => .inr ⟨rfl, h⟩) List.pairwise_lt_range
  · refine List.Pairwise.imp ?_ List.pairwise_lt_range
    intro k j hkj x hx y hy
    unfold rowN at hx hy
    obtain ⟨_, _, rfl⟩ := List.mem_map.mp hx
    obtain ⟨_, _, rfl⟩ := List.mem_map.mp hy
    exact .inl hkj
theorem owners_mem {cs : List Nat} {o : Nat × Nat} (h : o ∈ owners cs) : o.1 < cs.length ∧ o.2 < gt cs o.1 := by
  unfold owners at h
  obtain ⟨k, hk, h⟩ := List.mem_flatMap.mp h
  unfold rowN at h
  obtain ⟨p, hp, rfl⟩ := List.mem_map.mp h
  exact ⟨by simpa using hk, by simpa using hp⟩
theorem own_step {cs : List Nat} {i : Nat} {a b : Nat × Nat} (h1 : (owners cs)[i]? = some a) (h2 : (owners cs)[i + 1]? = some b) : a.1 < b.1 ∨ (a.1 = b.1 ∧ a.2 < b.2) := by
  obtain ⟨l1, e1⟩ := List.getElem?_eq_some_iff.mp h1
  obtain ⟨l2, e2⟩ := List.getElem?_eq_some_iff.mp h2
  have := List.pairwise_iff_getElem.mp (owners_pw cs) i (i + 1) l1 l2 (by omega)
  rw [e1, e2] at this
  exact this
theorem owners_sum (cs : List Nat) (l : List Nat) : (l.flatMap (rowN cs)).length = (l.map (gt cs)).sum := by
  induction l with
  | nil => rfl
  | cons k l ih => simp [rowN, ih]
theorem owners_len (cs : List Nat) : (owners cs).length = cs.sum := by
  unfold owners
  rw [owners_sum]
  congr 1
  apply List.ext_getElem?
  intro i
  by_cases h : i < cs.length
  · simp [h]
    have := gt_get h
    rw [List.getElem?_eq_getElem h] at this
    exact (Option.some.inj this).symm
  · simp [h]
theorem atI_pD {cs : List Nat} {n : Nat} {o : Nat × Nat} (h : (owners cs)[n]? = some o) : atI ((owners cs).map pD) (n : Int) = some (pD o) := by
  rw [atI_n, List.getElem?_map, h]; rfl
theorem atI_blk {bs : List Blk} {n : Nat} {b : Blk} (h : bs[n]? = some b) : atI (bs.map Blk.d) (n : Int) = some b.d := by
  rw [atI_n, List.getElem?_map, h]; rfl
theorem atI_NL {cs : List Nat} {n : Nat} (h : n < cs.length) : atI (NL cs) (n : Int) = some (.int (gt cs n)) := by
  rw [atI_n, List.getElem?_map, gt_get h]; rfl
theorem kind_break (b : Blk) : eqD (.str b.kind) (.str ("break" : String)) = bl (decide (b.kind = ("break" : String))) := eqD_str (strOk_kind b) (strOk_kind .brk)
theorem kind_head (b : Blk) : eqD (.str b.kind) (.str ("head" : String)) = bl (decide (b.kind = ("head" : String))) := eqD_str (strOk_kind b) (strOk_kind (.head default))
theorem both_may (bs : List Blk) (cs : List Nat) (hl : cs.length = bs.length) (h100 : cs.length ≤ 100) (hcs : ∀ c ∈ cs, 1 ≤ c ∧ c ≤ 6) (n : Nat) (h0 : 1 ≤ n) (h1 : n ≤ (owners cs).length) :
    ∃ B : Bool, r_pme [.val (.lst (bs.map Blk.d)), .val (.lst (NL cs)), .val (.int n)] = .ok (.val (.bl B)) [.val (.lst (bs.map Blk.d)), .val (.lst (NL cs)), .val (.int n)] ∧
      ∀ m, IsL m (NL cs) → r_pmay [.val (.lst (bs.map Blk.d)), m, .val (.int n)] = .ok (.val (.bl B)) [.val (.lst (bs.map Blk.d)), m, .val (.int n)] := by
  have ho := law_owners_ok cs h100 hcs (.inl rfl)
  have ho2 := law_owners_ok cs h100 hcs (.inr rfl)
  have hp0 := line_owners_ok cs h100 hcs (.inl rfl)
  have hlen : (owners cs).length ≤ 600 := by
    have := own_len cs (List.range cs.length) hcs
    unfold owners
    simp only [List.length_range] at this
    omega
  obtain ⟨⟨k, p⟩, hp⟩ : ∃ o, (owners cs)[n - 1]? = some o := ⟨_, List.getElem?_eq_getElem (by omega)⟩
  obtain ⟨hk, hpc⟩ := owners_mem (List.mem_of_getElem? hp)
  obtain ⟨b, hb⟩ : ∃ b, bs[k]? = some b := ⟨_, List.getElem?_eq_getElem (by simp at hk; omega)⟩
  have a1 := atI_pD hp
  rw [show ((n - 1 : Nat) : Int) = (n : Int) - 1 by omega] at a1
  have a2 := atI_blk hb
  have a3 := atI_NL hk
  have b0 := b.at0
  have kb := kind_break b
  have kh := kind_head b
  have st := fun o (e : (owners cs)[n]? = some o) => own_step hp (show (owners cs)[n - 1 + 1]? = some o by rw [show n - 1 + 1 = n by omega]; exact e)
  have a4 : ∀ o, (owners cs)[n]? = some o → atI ((owners cs).map pD) (n : Int) = some (pD o) := fun o e => atI_pD e
  have hm2 : ∀ o, (owners cs)[n]? = some o → o.2 < gt cs o.1 := fun o e => (owners_mem (List.mem_of_getElem? e)).2
  have hl3 : (owners cs).length = ((owners cs).map pD).length := by simp
  simp only [pD] at a1
  generalize owners cs = os at *
  generalize hT : os.map pD = T at *
  simp only [NL, IsL] at ho ho2 a3 hp0 ⊢
  generalize (cs.map fun (c : Nat) => DV.int (c : Int)) = N at *
  generalize bs.map Blk.d = B at *
  generalize gt cs = g at *
  clear hT hl hb hcs h100
  by_cases c1 : n = os.length
  · refine ⟨true, ?_, ?_⟩
    · have c1' : (n : Int) = T.length := by omega
      simp [r_pme, b_pme, hp0, c1']
    · have c1' : (n : Int) = T.length := by omega
      rintro m (rfl | rfl) <;> simp [r_pmay, b_pmay, ho, ho2, a1, a2, b0, ← c1']
  have c1' : ¬ (n : Int) = T.length := by omega
  by_cases c2 : b.kind = ("break" : String)
  · rw [decide_eq_true c2] at kb
    refine ⟨true, ?_, ?_⟩
    · simp [r_pme, b_pme, r_pstop, b_pstop, hp0, c1', a1, a2, b0, kb]
    · rintro m (rfl | rfl) <;> simp [r_pmay, b_pmay, ho, ho2, a1, a2, b0, c1', kb]
  rw [decide_eq_false c2] at kb
  by_cases c3 : b.kind = ("head" : String)
  · rw [decide_eq_true c3] at kh
    refine ⟨false, ?_, ?_⟩
    · simp [r_pme, b_pme, r_pstop, b_pstop, hp0, c1', a1, a2, b0, kb, kh]
    · rintro m (rfl | rfl) <;> simp [r_pmay, b_pmay, ho, ho2, a1, a2, b0, c1', kb, kh]
  rw [decide_eq_false c3] at kh
  obtain ⟨⟨k2, q⟩, hq⟩ : ∃ o, os[n]? = some o := ⟨_, List.getElem?_eq_getElem (by omega)⟩
  have a5 := a4 _ hq
  have st' := st _ hq
  have hm3 := hm2 _ hq
  simp only [pD] at a5 st' hm3
  by_cases c4 : k2 = k
  · subst c4
    have hq1 : 1 ≤ q := by omega
    refine ⟨decide (q ≠ 1) && decide ((q : Int) ≠ (g k2 : Int) - 1), ?_, ?_⟩
    · by_cases d1 : (1 : Int) < q
      · have d2 : ¬ q = 1 := by omega
        by_cases d3 : (q : Int) < (g k2 : Int) - 1
        · have d4 : ¬ (q : Int) = (g k2 : Int) - 1 := by omega
          simp [r_pme, b_pme, r_pstop, b_pstop, hp0, c1', a1, a2, a3, a5, b0, kb, kh, d1, d2, d3, d4]
        · have d4 : (q : Int) = (g k2 : Int) - 1 := by omega
          have d5 : (1 : Int) < (g k2 : Int) - 1 := by omega
          simp [r_pme, b_pme, r_pstop, b_pstop, hp0, c1', a1, a2, a3, a5, b0, kb, kh, d1, d2, d3, d4, d5]
      · have d2 : q = 1 := by omega
        subst d2
        simp [r_pme, b_pme, r_pstop, b_pstop, hp0, c1', a1, a2, a3, a5, b0, kb, kh]
    · by_cases d2 : q = 1
      · subst d2
        rintro m (rfl | rfl) <;> simp [r_pmay, b_pmay, ho, ho2, a1, a2, a3, a5, b0, c1', kb, kh]
      · have d2' : ¬ (q : Int) = 1 := by omega
        rintro m (rfl | rfl) <;> simp [r_pmay, b_pmay, ho, ho2, a1, a2, a3, a5, b0, c1', kb, kh, d2, d2']
  · have c4' : ¬ (k2 : Int) = k := by omega
    refine ⟨true, ?_, ?_⟩
    · simp [r_pme, b_pme, r_pstop, b_pstop, hp0, c1', a1, a2, a3, a5, b0, kb, kh, c4']
    · rintro m (rfl | rfl) <;> simp [r_pmay, b_pmay, ho, ho2, a1, a2, a3, a5, b0, c1', kb, kh, c4']
theorem sum_cast : ∀ cs : List Nat, (cs.map fun (c : Nat) => (c : Int)).sum = (cs.sum : Int)
  | [] => rfl
  | c :: cs => by simp [sum_cast cs]
theorem sum_NL (cs : List Nat) : sumD [.lst (NL cs)] = it (cs.sum : Int) := by
  have := sumD_ints (ns := cs.map fun (c : Nat) => (c : Int))
  rw [List.map_map, sum_cast] at this
  exact this
end Sy
namespace Sy
open PySem PySem.Spec PyProof.Rows L2
/-! ### pages: where they end, what they cost -/
/-- blocks and counts that belong together -/
structure Bk (bs : List Blk) (cs : List Nat) : Prop where
  len : cs.length = bs.length
  few : cs.length ≤ 100
  six : ∀ c ∈ cs, 1 ≤ c ∧ c ≤ 6
abbrev tot (cs : List Nat) : Nat := (owners cs).length
theorem Bk.tot {bs : List Blk} {cs : List Nat} (h : Bk bs cs) : tot cs ≤ 600 := by
  have := own_len cs (List.range cs.length) h.six
  unfold Sy.tot owners
  simp only [List.length_range] at this
  have := h.few
  omega
noncomputable def mayB (bs : List Blk) (cs : List Nat) (n : Nat) : Bool := match r_pmay [.val (.lst (bs.map Blk.d)), .lst (NL cs), .val (.int n)] with
  | .ok (.val (.bl b)) _ => b
  | _ => false
theorem pmay_ok {bs : List Blk} {cs : List Nat} (h : Bk bs cs) {m : MV} (hm : IsL m (NL cs)) {n : Nat} (h0 : 1 ≤ n) (h1 : n ≤ tot cs) : r_pmay [.val (.lst (bs.map Blk.d)), m, .val (.int n)] = .ok (.val (.bl (mayB bs cs n))) [.val (.lst (bs.map Blk.d)), m, .val (.int n)] := by
  obtain ⟨B, _, q⟩ := both_may bs cs h.len h.few h.six n h0 h1
  have e : mayB bs cs n = B := by
    unfold mayB
    rw [q _ (.inr rfl)]
  rw [e]
  exact q m hm
theorem pme_ok {bs : List Blk} {cs : List Nat} (h : Bk bs cs) {n : Nat} (h0 : 1 ≤ n) (h1 : n ≤ tot cs) : r_pme [.val (.lst (bs.map Blk.d)), .val (.lst (NL cs)), .val (.int n)] = .ok (.val (.bl (mayB bs cs n))) [.val (.lst (bs.map Blk.d)), .val (.lst (NL cs)), .val (.int n)] := by
  obtain ⟨B, p, q⟩ := both_may bs cs h.len h.few h.six n h0 h1
  have e : mayB bs cs n = B := by
    unfold mayB
    rw [q _ (.inr rfl)]
  rw [e]
  exact p
/-- the line ahead of e is that of a break -/
def brkB (bs : List Blk) (cs : List Nat) (e : Nat) : Bool := match (owners cs)[e - 1]? with
  | none => false
  | some o => match bs[o.1]? with
    | none => false
    | some b => decide (b.kind = ("break" : String))
theorem brk_at {bs : List Blk} {cs : List Nat} (h : Bk bs cs) {n : Nat} (h0 : 1 ≤ n) (h1 : n ≤ tot cs) : ∃ (k p : Nat) (b : Blk), atI ((owners cs).map pD) ((n : Int) - 1) = some (.tup [.int k, .int p]) ∧ atI (bs.map Blk.d) (k : Int) = some b.d ∧ ixD b.d (.int 0) = some (.val (.str b.kind)) ∧
    eqD (.str b.kind) (.str ("break" : String)) = bl (brkB bs cs n) := by
  obtain ⟨⟨k, p⟩, hp⟩ : ∃ o, (owners cs)[n - 1]? = some o := ⟨_, List.getElem?_eq_getElem (by unfold tot at h1; omega)⟩
  obtain ⟨hk, _⟩ := owners_mem (List.mem_of_getElem? hp)
  have hl := h.len
  obtain ⟨b, hb⟩ : ∃ b, bs[k]? = some b := ⟨_, List.getElem?_eq_getElem (by simp at hk; omega)⟩
  have a1 := atI_pD hp
  rw [show ((n - 1 : Nat) : Int) = (n : Int) - 1 by omega] at a1
  refine ⟨k, p, b, a1, atI_blk hb, b.at0, ?_⟩
  rw [kind_break]
  unfold brkB
  rw [hp]
  simp only
  rw [hb]
theorem pstop_ok {bs : List Blk} {cs : List Nat} (h : Bk bs cs) {n : Nat} (h0 : 1 ≤ n) (h1 : n ≤ tot cs) :
    r_pstop [.val (.lst (bs.map Blk.d)), .val (.lst ((owners cs).map pD)), .val (.int ((n : Int) - 1))] = .ok (.val (.bl (brkB bs cs n))) [.val (.lst (bs.map Blk.d)), .val (.lst ((owners cs).map pD)), .val (.int ((n : Int) - 1))] := by
  obtain ⟨k, p, b, a1, a2, a3, a4⟩ := brk_at h h0 h1
  simp [r_pstop, b_pstop, a1, a2, a3, a4]
/-- the ends among some places -/
def endsG (may brk : Nat → Bool) : List Nat → List Nat
  | [] => []
  | e :: es => (if may e then [e] else []) ++ (if brk e then [] else endsG may brk es)
def places (cs : List Nat) (room s : Nat) : List Nat := List.range' (s + 1) (min (tot cs) (s + room) - s)
noncomputable def endsF (bs : List Blk) (cs : List Nat) (room s : Nat) : List Nat := endsG (mayB bs cs) (brkB bs cs) (places cs room s)
abbrev NI (xs : List Nat) : List DV := xs.map fun (x : Nat) => DV.int (x : Int)
theorem ups_range' (a n : Nat) : ups (a : Int) (n : Int) = NI (List.range' a n) := by
  unfold ups NI
  apply List.ext_getElem?
  intro i
  by_cases h : i < n
  · simp [h]
  · simp [h]
theorem endsG_len (may brk : Nat → Bool) : ∀ es : List Nat, (endsG may brk es).length ≤ es.length
  | [] => by simp [endsG]
  | e :: es => by
    have := endsG_len may brk es
    unfold endsG
    cases may e <;> cases brk e <;> simp <;> omega
theorem endsG_mem {may brk : Nat → Bool} : ∀ {es : List Nat} {e : Nat}, e ∈ endsG may brk es → e ∈ es
  | [], e, h => by simp [endsG] at h
  | x :: es, e, h => by
    unfold endsG at h
    rcases List.mem_append.mp h with h | h
    · split at h
      · simp at h; subst h; simp
      · simp at h
    · split at h
      · simp at h
      · exact List.mem_cons_of_mem _ (endsG_mem h)
theorem ends_bd {bs : List Blk} {cs : List Nat} {room s e : Nat} (h : e ∈ endsF bs cs room s) : s < e ∧ e ≤ tot cs ∧ e ≤ s + room := by
  have := endsG_mem h
  unfold places at this
  rw [List.mem_range'] at this
  obtain ⟨i, hi, rfl⟩ := this
  omega
theorem pend_loop {bs : List Blk} {cs : List Nat} (h : Bk bs cs) {m x0 x3 : MV} (hm : IsL m (NL cs)) : ∀ (es acc : List Nat) (x6 : Option MV), (∀ e ∈ es, 1 ≤ e ∧ e ≤ tot cs) → acc.length + es.length ≤ 10000 →
    ∃ y6, loop (.nm 6) l_pend_1 (NI es) [some x0, some (.val (.lst (bs.map Blk.d))), some m, some x3, some (.lst ((owners cs).map pD)), some (.lst (NI acc)), x6] = .nx [some x0, some (.val (.lst (bs.map Blk.d))), some m, some x3, some (.lst ((owners cs).map pD)), some (.lst (NI (acc ++ endsG (mayB bs cs) (brkB bs cs) es))), y6] ∨
      loop (.nm 6) l_pend_1 (NI es) [some x0, some (.val (.lst (bs.map Blk.d))), some m, some x3, some (.lst ((owners cs).map pD)), some (.lst (NI acc)), x6] = .ret (.lst (NI (acc ++ endsG (mayB bs cs) (brkB bs cs) es))) [some x0, some (.val (.lst (bs.map Blk.d))), some m, some x3, some (.lst ((owners cs).map pD)), none, y6]
  | [], acc, x6, _, _ => ⟨x6, .inl (by simp [loop, endsG])⟩
  | e :: es, acc, x6, he, hl => by
    obtain ⟨e0, e1⟩ := he e (by simp)
    have hmay := pmay_ok h hm e0 e1
    obtain ⟨k, p, b, a1, a2, a3, a4⟩ := brk_at h e0 e1
    have g1 : acc.length ≤ 10000000 := by simp at hl; omega
    have step : l_pend_1 [some x0, some (.val (.lst (bs.map Blk.d))), some m, some x3, some (.lst ((owners cs).map pD)), some (.lst (NI acc)), some (.val (.int e))] = (if brkB bs cs e then .ret (.lst (NI (acc ++ if mayB bs cs e then [e] else []))) [some x0, some (.val (.lst (bs.map Blk.d))), some m, some x3, some (.lst ((owners cs).map pD)), none, some (.val (.int e))]
        else .nx [some x0, some (.val (.lst (bs.map Blk.d))), some m, some x3, some (.lst ((owners cs).map pD)), some (.lst (NI (acc ++ if mayB bs cs e then [e] else []))), some (.val (.int e))]) := by
      simp only [NI] at *
      rcases hm with rfl | rfl <;> cases hB : brkB bs cs e <;> cases hM : mayB bs cs e <;> rw [hB] at a4 <;> rw [hM] at hmay <;> simp [l_pend_1, hmay, a1, a2, a3, a4, g1]
    have ih := fun acc' hl' => pend_loop h (x0 := x0) (x3 := x3) hm es acc' (some (.val (.int e))) (fun e' h' => he e' (by simp [h'])) hl'
    have hb : bindP (.nm 6) (.int (e : Int)) [some x0, some (.val (.lst (bs.map Blk.d))), some m, some x3, some (.lst ((owners cs).map pD)), some (.lst (NI acc)), x6] = some [some x0, some (.val (.lst (bs.map Blk.d))), some m, some x3, some (.lst ((owners cs).map pD)), some (.lst (NI acc)), some (.val (.int e))] := by simp
    have hc : NI (e :: es) = .int (e : Int) :: NI es := rfl
    rw [hc]
    simp only [loop, hb, step]
    cases hB : brkB bs cs e with
    | true =>
      refine ⟨some (.val (.int e)), .inr ?_⟩
      simp [endsG, hB]
    | false =>
      obtain ⟨y6, q⟩ := ih (acc ++ if mayB bs cs e then [e] else []) (by simp at hl ⊢; split <;> simp <;> omega)
      refine ⟨y6, ?_⟩
      simp only [endsG, hB, Bool.false_eq_true, if_false]
      rw [← List.append_assoc]
      exact q
theorem range_int (cs : List Nat) (room s : Nat) (hs : s ≤ tot cs) : ups ((s : Int) + 1) ((if (s : Int) + ((room : Int) + 1) - 1 < (tot cs : Int) then (s : Int) + ((room : Int) + 1) - 1 else (tot cs : Int)) + 1 - ((s : Int) + 1)) = NI (places cs room s) := by
  have e : (if (s : Int) + ((room : Int) + 1) - 1 < (tot cs : Int) then (s : Int) + ((room : Int) + 1) - 1 else (tot cs : Int)) + 1 - ((s : Int) + 1) = ((min (tot cs) (s + room) - s : Nat) : Int) := by
    split <;> omega
  rw [e, show ((s : Int) + 1) = ((s + 1 : Nat) : Int) by omega, ups_range']
  rfl
theorem range_int2 (cs : List Nat) (room s : Nat) (hs : s ≤ tot cs) : ups ((s : Int) + 1) ((if (s : Int) + (room : Int) < (tot cs : Int) then (s : Int) + (room : Int) else (tot cs : Int)) + 1 - ((s : Int) + 1)) = NI (places cs room s) := by
  rw [← range_int cs room s hs]
  congr 2
  rw [show (s : Int) + ((room : Int) + 1) - 1 = (s : Int) + room by omega]
theorem places_mem {cs : List Nat} {room s e : Nat} (h : e ∈ places cs room s) : 1 ≤ e ∧ e ≤ tot cs := by
  unfold places at h
  rw [List.mem_range'] at h
  obtain ⟨i, hi, rfl⟩ := h
  omega
theorem places_len (cs : List Nat) (room s : Nat) : (places cs room s).length ≤ tot cs := by
  unfold places
  rw [List.length_range']
  omega
theorem pend_ok {bs : List Blk} {cs : List Nat} (h : Bk bs cs) {m : MV} (hm : IsL m (NL cs)) (room s : Nat) (hr : room ≤ 1000) (hs : s ≤ tot cs) :
    r_pend [.val (.int ((room : Int) + 1)), .val (.lst (bs.map Blk.d)), m, .val (.int s)] = .ok (.lst (NI (endsF bs cs room s))) [.val (.int ((room : Int) + 1)), .val (.lst (bs.map Blk.d)), m, .val (.int s)] := by
  have ht := h.tot
  have ho := law_owners_ok cs h.few h.six hm
  have hr1 := range_int cs room s hs
  have hpl := places_len cs room s
  obtain ⟨y6, q⟩ := pend_loop h (x0 := .val (.int ((room : Int) + 1))) (x3 := .val (.int s)) hm (places cs room s) [] none (fun e he => places_mem he) (by simp; omega)
  have hmin : ∀ z : Int, z = (if (s : Int) + ((room : Int) + 1) - 1 < (tot cs : Int) then (s : Int) + ((room : Int) + 1) - 1 else (tot cs : Int)) → 0 ≤ z ∧ z ≤ 2000 := by
    intro z hz
    subst hz
    split <;> omega
  have hlo : (((owners cs).map pD).length : Int) = (tot cs : Int) := by simp
  simp only [List.nil_append] at q
  unfold endsF
  generalize hE : endsG (mayB bs cs) (brkB bs cs) (places cs room s) = E at *
  simp only [NI, List.map_nil] at q hr1
  simp only [tot] at hr1 hmin hlo hs ht
  generalize hz : (if (s : Int) + ((room : Int) + 1) - 1 < ((owners cs).length : Int) then (s : Int) + ((room : Int) + 1) - 1 else ((owners cs).length : Int)) = z at *
  obtain ⟨z0, z1⟩ := hmin z rfl
  have k1 : (0 : Int) ≤ (s : Int) + 1 := by omega
  have k2 : (s : Int) + 1 ≤ 4000000000 := by omega
  have k3 : 0 ≤ z + 1 := by omega
  have k4 : z + 1 ≤ 4000000000 := by omega
  have s1 := small62_of k1 k2
  have s2 := small62_of k3 k4
  rcases hm with rfl | rfl <;> rcases q with q | q <;> simp [r_pend, b_pend, ho, hz, s1, s2, hr1, q]
/-- what a page costs -/
def costF (bs : List Blk) (cs : List Nat) (room s e : Nat) : Int := if e = tot cs ∨ brkB bs cs e = true then 0 else ((room : Int) - e + s) ^ 2
theorem sq_eq (x : Int) : x ^ 2 = x * x := by rw [Int.pow_succ, Int.pow_succ, Int.pow_zero, Int.one_mul]
theorem sq_nn (x : Int) : 0 ≤ x ^ 2 := by
  rw [sq_eq]
  rcases Int.le_total 0 x with h | h
  · exact Int.mul_nonneg h h
  · exact Int.mul_nonneg_of_nonpos_of_nonpos h h
theorem cost_nn (bs : List Blk) (cs : List Nat) (room s e : Nat) : 0 ≤ costF bs cs room s e := by
  unfold costF
  split
  · omega
  · exact sq_nn _
theorem cost_le (bs : List Blk) (cs : List Nat) {room s e : Nat} (h0 : s < e) (h1 : e ≤ s + room) (hr : room ≤ 20) : costF bs cs room s e ≤ 400 := by
  unfold costF
  split
  · omega
  · rw [sq_eq]
    have a : 0 ≤ (room : Int) - e + s := by omega
    have b : (room : Int) - e + s ≤ 20 := by omega
    have := Int.mul_le_mul b b a (by omega)
    omega
theorem pcost_ok {bs : List Blk} {cs : List Nat} (h : Bk bs cs) {m : MV} (hm : IsL m (NL cs)) (room s e : Nat) (hr : room ≤ 1000) (hs : s ≤ 1000) (he0 : 1 ≤ e) (he : e ≤ tot cs) :
    r_pcost [.val (.int ((room : Int) + 1)), .val (.lst (bs.map Blk.d)), m, .val (.int s), .val (.int e)] = .ok (.val (.int (costF bs cs room s e))) [.val (.int ((room : Int) + 1)), .val (.lst (bs.map Blk.d)), m, .val (.int s), .val (.int e)] := by
  have ht := h.tot
  have ho := law_owners_ok cs h.few h.six hm
  obtain ⟨k, p, b, a1, a2, a3, a4⟩ := brk_at h he0 he
  by_cases c1 : e = tot cs
  · have e0 : costF bs cs room s e = 0 := by unfold costF; rw [if_pos (.inl c1)]
    rw [e0]
    have c1' : (e : Int) = ((owners cs).length : Int) := by unfold tot at c1; omega
    rcases hm with rfl | rfl <;> simp [r_pcost, b_pcost, ho, c1']
  have c1' : ¬ (e : Int) = ((owners cs).length : Int) := by unfold tot at c1; omega
  by_cases c2 : brkB bs cs e = true
  · have e0 : costF bs cs room s e = 0 := by unfold costF; rw [if_pos (.inr c2)]
    rw [e0]
    rw [c2] at a4
    rcases hm with rfl | rfl <;> simp [r_pcost, b_pcost, ho, c1', a1, a2, a3, a4]
  · have e0 : costF bs cs room s e = ((room : Int) - e + s) * ((room : Int) - e + s) := by unfold costF; rw [if_neg (by simp [c1, c2]), sq_eq]
    rw [e0]
    have c2 := Bool.eq_false_iff.mpr c2
    rw [c2] at a4
    have g : (room : Int) + 1 - 1 - e + s = (room : Int) - e + s := by omega
    have g1 : -1000000000000 ≤ (room : Int) - e + s := by omega
    have g2 : (room : Int) - e + s ≤ 1000000000000 := by omega
    have g3 := smallI_of g1 g2
    have g4 : (room : Int) + 1 - 1 = room := by omega
    rcases hm with rfl | rfl <;> simp [r_pcost, b_pcost, ho, c1', a1, a2, a3, a4, g4, g3]
/-! the layout -/
noncomputable def allowB (bs : List Blk) (cs : List Nat) : List DV := .bl false :: (List.range (tot cs)).map fun i => .bl (mayB bs cs (1 + i))
abbrev layN : List Str := ["room", "blocks", "owners", "total", "allowed"]
noncomputable abbrev layV (bs : List Blk) (cs : List Nat) (room : Nat) : List DV := [.int room, .lst (bs.map Blk.d), .lst ((owners cs).map pD), .int (tot cs), .lst (allowB bs cs)]
noncomputable abbrev layM (C : Addr) (bs : List Blk) (cs : List Nat) (room : Nat) : MV := .obj C layN (layV bs cs room)
theorem allow_at {bs : List Blk} {cs : List Nat} {e : Nat} (h0 : 1 ≤ e) (h1 : e ≤ tot cs) : atI (allowB bs cs) (e : Int) = some (.bl (mayB bs cs e)) := by
  rw [atI_n]
  unfold allowB
  obtain ⟨k, rfl⟩ : ∃ k, e = k + 1 := ⟨e - 1, by omega⟩
  rw [List.getElem?_cons_succ, List.getElem?_map, List.getElem?_range (by omega)]
  simp only [Option.map_some]
  rw [Nat.add_comm]
theorem linit_ok {bs : List Blk} {cs : List Nat} (h : Bk bs cs) {C : Addr} {m : MV} (hm : IsL m (NL cs)) (room : Nat) :
    r_linit C [.obj C [] [], .val (.int ((room : Int) + 1)), .val (.lst (bs.map Blk.d)), m] = .ok (.val .non) [layM C bs cs room, .val (.int ((room : Int) + 1)), .val (.lst (bs.map Blk.d)), .val (.lst (NL cs))] := by
  have ht := h.tot
  have ho := line_owners_ok cs h.few h.six hm
  have hlc := lcl_read (i := 4) (m := m_linit_1) (b := [some (.obj C ["room", "blocks", "owners", "total"] [.int room, .lst (bs.map Blk.d), .lst ((owners cs).map pD), .int (tot cs)]), some (.val (.int ((room : Int) + 1))), some (.val (.lst (bs.map Blk.d))), some (.val (.lst (NL cs))), none])
    (fun d => match d with | .int k => .bl (mayB bs cs k.toNat) | d => d) (ups 1 (tot cs)) [] (by simp) (by simp) (by
    intro d hd
    obtain ⟨i, hi⟩ := List.getElem?_of_mem hd
    obtain ⟨rfl, hi⟩ := ups_get hi
    have e := pme_ok h (n := 1 + i) (by omega) (by simpa using (by omega : 1 + i ≤ tot cs))
    have e2 : ((1 + i : Nat) : Int) = 1 + (i : Int) := by omega
    rw [e2] at e
    have e3 : (1 + (i : Int)).toNat = 1 + i := by omega
    simp only [NL] at e
    exact ⟨.val (.bl (mayB bs cs (1 + i))), by simp [m_linit_1, NL, e], by simp [e3]⟩)
  have hmap : (ups 1 (tot cs)).map (fun d => match d with | .int k => .bl (mayB bs cs k.toNat) | d => d) = (List.range (tot cs)).map fun i => DV.bl (mayB bs cs (1 + i)) := by
    unfold ups
    rw [List.map_map]
    simp only [Int.toNat_natCast]
    refine List.map_congr_left fun i _ => ?_
    have e3 : (1 + (i : Int)).toNat = 1 + i := by omega
    simp [e3]
  rw [hmap] at hlc
  have g1 : (1 : Int) ≤ 4000000000 := by omega
  have g2 : (0 : Int) ≤ (tot cs : Int) + 1 := by omega
  have g3 : (tot cs : Int) + 1 ≤ 4000000000 := by omega
  have g4 : (1 : Nat) + tot cs ≤ sizeLine := le_size (by omega)
  have g5 : ((tot cs : Int) + 1 - 1) = tot cs := by omega
  have g6 : tot cs ≤ 10000000 := by omega
  have g7 : (tot cs : Int) = ((owners cs).length : Int) := rfl
  simp only [NL, tot, List.nil_append] at *
  rcases hm with rfl | rfl <;> simp [r_linit, b_linit, ho, g2, g3, g4, g5, g6, hlc, allowB]
end Sy
namespace Sy
open PySem PySem.Spec PyProof.Rows L2
theorem lends_loop {bs : List Blk} {cs : List Nat} (h : Bk bs cs) (C : Addr) (room : Nat) {x1 : MV} : ∀ (es acc : List Nat) (x3 : Option MV), (∀ e ∈ es, 1 ≤ e ∧ e ≤ tot cs) → acc.length + es.length ≤ 10000 →
    ∃ y3, loop (.nm 3) (l_lends_1 C) (NI es) [some (layM C bs cs room), some x1, some (.lst (NI acc)), x3] = .nx [some (layM C bs cs room), some x1, some (.lst (NI (acc ++ endsG (mayB bs cs) (brkB bs cs) es))), y3] ∨
      loop (.nm 3) (l_lends_1 C) (NI es) [some (layM C bs cs room), some x1, some (.lst (NI acc)), x3] = .ret (.lst (NI (acc ++ endsG (mayB bs cs) (brkB bs cs) es))) [some (layM C bs cs room), some x1, none, y3]
  | [], acc, x3, _, _ => ⟨x3, .inl (by simp [loop, endsG])⟩
  | e :: es, acc, x3, he, hl => by
    obtain ⟨e0, e1⟩ := he e (by simp)
    have hall := allow_at (bs := bs) e0 e1
    have hst := pstop_ok h e0 e1
    have g1 : acc.length ≤ 10000000 := by simp at hl; omega
    have step : l_lends_1 C [some (layM C bs cs room), some x1, some (.lst (NI acc)), some (.val (.int e))] = (if brkB bs cs e then .ret (.lst (NI (acc ++ if mayB bs cs e then [e] else []))) [some (layM C bs cs room), some x1, none, some (.val (.int e))]
        else .nx [some (layM C bs cs room), some x1, some (.lst (NI (acc ++ if mayB bs cs e then [e] else []))), some (.val (.int e))]) := by
      simp only [NI] at *
      cases hB : brkB bs cs e <;> cases hM : mayB bs cs e <;> rw [hB] at hst <;> rw [hM] at hall <;> simp [l_lends_1, hall, hst, g1]
    have ih := fun acc' hl' => lends_loop h C room (x1 := x1) es acc' (some (.val (.int e))) (fun e' h' => he e' (by simp [h'])) hl'
    have hb : bindP (.nm 3) (.int (e : Int)) [some (layM C bs cs room), some x1, some (.lst (NI acc)), x3] = some [some (layM C bs cs room), some x1, some (.lst (NI acc)), some (.val (.int e))] := by simp
    have hc : NI (e :: es) = .int (e : Int) :: NI es := rfl
    rw [hc]
    simp only [loop, hb, step]
    cases hB : brkB bs cs e with
    | true =>
      refine ⟨some (.val (.int e)), .inr ?_⟩
      simp [endsG, hB]
    | false =>
      obtain ⟨y6, q⟩ := ih (acc ++ if mayB bs cs e then [e] else []) (by simp at hl ⊢; split <;> simp <;> omega)
      refine ⟨y6, ?_⟩
      simp only [endsG, hB, Bool.false_eq_true, if_false]
      rw [← List.append_assoc]
      exact q
theorem lends_ok {bs : List Blk} {cs : List Nat} (h : Bk bs cs) (C : Addr) (room s : Nat) (hr : room ≤ 1000) (hs : s ≤ tot cs) :
    r_lends C [layM C bs cs room, .val (.int s)] = .ok (.lst (NI (endsF bs cs room s))) [layM C bs cs room, .val (.int s)] := by
  have ht := h.tot
  have hr1 := range_int2 cs room s hs
  have hpl := places_len cs room s
  obtain ⟨y6, q⟩ := lends_loop h C room (x1 := .val (.int s)) (places cs room s) [] none (fun e he => places_mem he) (by simp; omega)
  simp only [List.nil_append] at q
  unfold endsF
  generalize hE : endsG (mayB bs cs) (brkB bs cs) (places cs room s) = E at *
  have hmin : ∀ z : Int, z = (if (s : Int) + (room : Int) < (tot cs : Int) then (s : Int) + (room : Int) else (tot cs : Int)) → 0 ≤ z ∧ z ≤ 2000 := by
    intro z hz
    subst hz
    split <;> omega
  generalize hz : (if (s : Int) + (room : Int) < (tot cs : Int) then (s : Int) + (room : Int) else (tot cs : Int)) = z at *
  obtain ⟨z0, z1⟩ := hmin z rfl
  have k1 : (0 : Int) ≤ (s : Int) + 1 := by omega
  have k2 : (s : Int) + 1 ≤ 4000000000 := by omega
  have k3 : 0 ≤ z + 1 := by omega
  have k4 : z + 1 ≤ 4000000000 := by omega
  have s1 := small62_of k1 k2
  have s2 := small62_of k3 k4
  simp only [NI, List.map_nil] at q hr1
  rcases q with q | q <;> simp [r_lends, b_lends, hz, s1, s2, hr1, q]
theorem lcost_ok {bs : List Blk} {cs : List Nat} (h : Bk bs cs) (C : Addr) (room s e : Nat) (hr : room ≤ 1000) (hs : s ≤ 1000) (he0 : 1 ≤ e) (he : e ≤ tot cs) :
    r_lcost C [layM C bs cs room, .val (.int s), .val (.int e)] = .ok (.val (.int (costF bs cs room s e))) [layM C bs cs room, .val (.int s), .val (.int e)] := by
  have ht := h.tot
  have hst := pstop_ok h he0 he
  by_cases c1 : e = tot cs
  · have e0 : costF bs cs room s e = 0 := by unfold costF; rw [if_pos (.inl c1)]
    rw [e0]
    have c1' : (e : Int) = (tot cs : Int) := by omega
    simp [r_lcost, b_lcost, c1']
  have c1' : ¬ (e : Int) = (tot cs : Int) := by omega
  by_cases c2 : brkB bs cs e = true
  · have e0 : costF bs cs room s e = 0 := by unfold costF; rw [if_pos (.inr c2)]
    rw [e0]
    rw [c2] at hst
    simp [r_lcost, b_lcost, c1', hst]
  · have e0 : costF bs cs room s e = ((room : Int) - e + s) ^ 2 := by unfold costF; rw [if_neg (by simp [c1, c2])]
    rw [e0]
    have c2 := Bool.eq_false_iff.mpr c2
    rw [c2] at hst
    have g : ((room : Int) - e + s).natAbs < 18446744073709551616 := by omega
    simp [r_lcost, b_lcost, c1', hst, g]
/-! ### costs from the end on -/
/-- a list of costs, some not known -/
def oI : Option Int → DV
  | none => .non
  | some c => .int c
def NO (l : List (Option Int)) : List DV := l.map oI
@[simp] theorem NO_len {l : List (Option Int)} : (NO l).length = l.length := by simp [NO]
/-- what stands at a place -/
def lat (L : List (Option Int)) (n : Nat) : Option Int := (L[n]?).join
theorem NO_at {L : List (Option Int)} {n : Nat} (h : n < L.length) : atI (NO L) (n : Int) = some (oI (lat L n)) := by
  rw [atI_n, NO, List.getElem?_map]
  unfold lat
  rw [List.getElem?_eq_getElem h]
  rfl
theorem NO_set {L : List (Option Int)} {n : Nat} {c : Int} : (NO L).set n (.int c) = NO (L.set n (some c)) := by
  unfold NO
  rw [List.map_set]
  rfl
theorem lat_set {L : List (Option Int)} {n k : Nat} {o : Option Int} (h : n < L.length) : lat (L.set n o) k = if k = n then o else lat L k := by
  unfold lat
  by_cases hk : k = n
  · subst hk
    rw [List.getElem?_set_self h, if_pos rfl]
    rfl
  · rw [List.getElem?_set_ne (Ne.symm hk), if_neg hk]
/-- one page's cost may better what is known -/
def better (o : Option Int) (c : Int) : Option Int := match o with
  | none => some c
  | some d => if c < d then some c else some d
def bestOf (L : List (Option Int)) (f : Nat → Int) : List Nat → Option Int → Option Int
  | [], o => o
  | e :: es, o => bestOf L f es (match lat L e with
    | none => o
    | some c => better o (f e + c))
theorem bestOf_le (L : List (Option Int)) (f : Nat → Int) : ∀ (es : List Nat) (o : Option Int), (∀ d, o = some d → ∃ d', bestOf L f es o = some d' ∧ d' ≤ d) ∧ (∀ e ∈ es, ∀ c, lat L e = some c → ∃ d', bestOf L f es o = some d' ∧ d' ≤ f e + c) ∧
    (∀ d', bestOf L f es o = some d' → o = some d' ∨ ∃ e ∈ es, ∃ c, lat L e = some c ∧ d' = f e + c)
  | [], o => ⟨fun d h => ⟨d, h, Int.le_refl _⟩, fun e h => by simp at h, fun d' h => .inl h⟩
  | e :: es, o => by
    unfold bestOf
    cases hc : lat L e with
    | none =>
      obtain ⟨h1, h2, h3⟩ := bestOf_le L f es o
      refine ⟨h1, fun x hx c hl => ?_, fun d' h => (h3 d' h).imp id fun ⟨x, hx, y⟩ => ⟨x, List.mem_cons_of_mem _ hx, y⟩⟩
      rcases List.mem_cons.mp hx with rfl | hx
      · rw [hc] at hl; cases hl
      · exact h2 x hx c hl
    | some c0 =>
      simp only
      obtain ⟨h1, h2, h3⟩ := bestOf_le L f es (better o (f e + c0))
      have hb : ∃ d, better o (f e + c0) = some d ∧ d ≤ f e + c0 ∧ (∀ d0, o = some d0 → d ≤ d0) ∧ (o = some d ∨ d = f e + c0) := by
        unfold better
        cases o with
        | none => exact ⟨_, rfl, Int.le_refl _, fun _ h => (by cases h), .inr rfl⟩
        | some d0 =>
          simp only
          by_cases hlt : f e + c0 < d0
          · rw [if_pos hlt]
            exact ⟨_, rfl, Int.le_refl _, fun _ h => (by cases h; omega), .inr rfl⟩
          · rw [if_neg hlt]
            exact ⟨_, rfl, by omega, fun _ h => (by cases h; omega), .inl rfl⟩
      obtain ⟨d, e1, e2, e3, e4⟩ := hb
      obtain ⟨d', f1, f2⟩ := h1 d e1
      refine ⟨fun d0 h => ⟨d', f1, by have := e3 d0 h; omega⟩, fun x hx c hl => ?_, fun d'' h => ?_⟩
      · rcases List.mem_cons.mp hx with rfl | hx
        · rw [hc] at hl; cases hl
          exact ⟨d', f1, by omega⟩
        · exact h2 x hx c hl
      · rcases h3 d'' h with h | ⟨x, hx, y⟩
        · rw [e1] at h
          cases h
          rcases e4 with e4 | e4
          · exact .inl e4
          · exact .inr ⟨e, by simp, c0, hc, e4⟩
        · exact .inr ⟨x, List.mem_cons_of_mem _ hx, y⟩
theorem bestOf_congr {L L' : List (Option Int)} {f : Nat → Int} : ∀ {es : List Nat} {o : Option Int}, (∀ e ∈ es, lat L e = lat L' e) → bestOf L f es o = bestOf L' f es o
  | [], _, _ => rfl
  | e :: es, o, h => by
    unfold bestOf
    rw [h e (by simp)]
    exact bestOf_congr fun x hx => h x (List.mem_cons_of_mem _ hx)
theorem pleast_in {bs : List Blk} {cs : List Nat} (h : Bk bs cs) {m : MV} (hm : IsL m (NL cs)) (room st : Nat) (hr : room ≤ 1000) {x3 x8 : Option MV} (L : List (Option Int)) (hL : L.length = tot cs + 1) (hst : st < tot cs) : ∀ (es : List Nat) (o : Option Int) (x6 x7 : Option MV), (∀ e ∈ es, st < e ∧ e ≤ tot cs) →
    ∃ y6 y7, loop (.nm 6) l_pleast_1 (NI es) [some (.val (.int ((room : Int) + 1))), some (.val (.lst (bs.map Blk.d))), some m, x3, some (.lst (NO (L.set st o))), some (.val (.int st)), x6, x7, x8] =
      .nx [some (.val (.int ((room : Int) + 1))), some (.val (.lst (bs.map Blk.d))), some m, x3, some (.lst (NO (L.set st (bestOf L (costF bs cs room st) es o)))), some (.val (.int st)), y6, y7, x8]
  | [], o, x6, x7, _ => ⟨x6, x7, rfl⟩
  | e :: es, o, x6, x7, he => by
    have ht := h.tot
    obtain ⟨e0, e1⟩ := he e (by simp)
    have hco := pcost_ok h hm room st e hr (by omega) (by omega) e1
    have hlen : (L.set st o).length = tot cs + 1 := by simpa using hL
    have a1 := NO_at (L := L.set st o) (n := e) (by omega)
    rw [lat_set (by omega), if_neg (by omega)] at a1
    have a2 := NO_at (L := L.set st o) (n := st) (by omega)
    rw [lat_set (by omega), if_pos rfl] at a2
    have a3 : ixN (NO (L.set st o)).length (st : Int) = some st := ixN_n (by simp; omega)
    generalize hc : costF bs cs room st e = c at hco
    have step : ∃ y7, l_pleast_1 [some (.val (.int ((room : Int) + 1))), some (.val (.lst (bs.map Blk.d))), some m, x3, some (.lst (NO (L.set st o))), some (.val (.int st)), some (.val (.int e)), x7, x8] =
        .nx [some (.val (.int ((room : Int) + 1))), some (.val (.lst (bs.map Blk.d))), some m, x3, some (.lst (NO (L.set st (match lat L e with | none => o | some d => better o (c + d))))), some (.val (.int st)), some (.val (.int e)), y7, x8] := by
      cases hl : lat L e with
      | none =>
        rw [hl] at a1
        simp only [oI] at a1
        exact ⟨x7, by simp [l_pleast_1, a1]⟩
      | some d =>
        rw [hl] at a1
        have hs : ∀ v : Int, (NO (L.set st o)).set st (.int v) = NO (L.set st (some v)) := fun v => by rw [NO_set, List.set_set]
        cases o with
        | none =>
          refine ⟨some (.val (.int (c + d))), ?_⟩
          simp only [better]
          rw [← hs (c + d)]
          simp only [oI] at a1 a2
          generalize NO (L.set st none) = T at *
          rcases hm with rfl | rfl <;> simp [l_pleast_1, a1, a2, a3, hco]
        | some d0 =>
          refine ⟨some (.val (.int (c + d))), ?_⟩
          simp only [better]
          by_cases hlt : c + d < d0
          · rw [if_pos hlt, ← hs (c + d)]
            simp only [oI] at a1 a2
            generalize NO (L.set st (some d0)) = T at *
            rcases hm with rfl | rfl <;> simp [l_pleast_1, a1, a2, a3, hco, hlt]
          · rw [if_neg hlt]
            simp only [oI] at a1 a2
            generalize NO (L.set st (some d0)) = T at *
            rcases hm with rfl | rfl <;> simp [l_pleast_1, a1, a2, a3, hco, hlt]
    obtain ⟨y7, step⟩ := step
    obtain ⟨z6, z7, ih⟩ := pleast_in h hm room st hr (x3 := x3) (x8 := x8) L hL hst es (match lat L e with | none => o | some d => better o (c + d)) (some (.val (.int e))) y7 fun x hx => he x (by simp [hx])
    refine ⟨z6, z7, ?_⟩
    have hb : bindP (.nm 6) (.int (e : Int)) [some (.val (.int ((room : Int) + 1))), some (.val (.lst (bs.map Blk.d))), some m, x3, some (.lst (NO (L.set st o))), some (.val (.int st)), x6, x7, x8] = some [some (.val (.int ((room : Int) + 1))), some (.val (.lst (bs.map Blk.d))), some m, x3, some (.lst (NO (L.set st o))), some (.val (.int st)), some (.val (.int e)), x7, x8] := by simp
    have hcons : NI (e :: es) = .int (e : Int) :: NI es := rfl
    rw [hcons]
    simp only [loop, hb, step, ih, bestOf, hc]
/-- the least costs from the last i lines on -/
structure Least (bs : List Blk) (cs : List Nat) (room i : Nat) (L : List (Option Int)) : Prop where
  len : L.length = tot cs + 1
  last : lat L (tot cs) = some 0
  none_ : ∀ s, s < tot cs - i → lat L s = none
  best : ∀ s, tot cs - i ≤ s → s < tot cs → lat L s = bestOf L (costF bs cs room s) (endsF bs cs room s) none
theorem lat_none_set {L : List (Option Int)} {n : Nat} (h : lat L n = none) (hn : n < L.length) : L.set n none = L := by
  apply List.ext_getElem?
  intro j
  by_cases hj : j = n
  · subst hj
    rw [List.getElem?_set_self hn]
    unfold lat at h
    rw [List.getElem?_eq_getElem hn] at h ⊢
    simp at h
    rw [h]
  · rw [List.getElem?_set_ne (Ne.symm hj)]
theorem Least.next {bs : List Blk} {cs : List Nat} {room i : Nat} {L : List (Option Int)} (h : Least bs cs room i L) (hi : i < tot cs) : Least bs cs room (i + 1) (L.set (tot cs - 1 - i) (bestOf L (costF bs cs room (tot cs - 1 - i)) (endsF bs cs room (tot cs - 1 - i)) none)) := by
  have hl : tot cs - 1 - i < L.length := by rw [h.len]; omega
  refine ⟨by simpa using h.len, ?_, fun s hs => ?_, fun s h1 h2 => ?_⟩
  · rw [lat_set hl, if_neg (by omega)]
    exact h.last
  · rw [lat_set hl, if_neg (by omega)]
    exact h.none_ s (by omega)
  · rw [lat_set hl]
    by_cases hs : s = tot cs - 1 - i
    · subst hs
      rw [if_pos rfl]
      refine bestOf_congr fun e he => ?_
      obtain ⟨b1, _, _⟩ := ends_bd he
      rw [lat_set hl, if_neg (by omega)]
    · rw [if_neg hs, h.best s (by omega) h2]
      refine bestOf_congr fun e he => ?_
      obtain ⟨b1, _, _⟩ := ends_bd he
      rw [lat_set hl, if_neg (by omega)]
theorem pleast_ok {bs : List Blk} {cs : List Nat} (h : Bk bs cs) {m : MV} (hm : IsL m (NL cs)) (room : Nat) (hr : room ≤ 1000) :
    ∃ L, Least bs cs room (tot cs) L ∧ r_pleast [.val (.int ((room : Int) + 1)), .val (.lst (bs.map Blk.d)), m] = .ok (.lst (NO L)) [.val (.int ((room : Int) + 1)), .val (.lst (bs.map Blk.d)), m] := by
  have ht := h.tot
  have hsum : (cs.sum : Int) = (tot cs : Int) := by unfold tot; rw [owners_len]
  have hlc := lcl_read (i := 8) (m := m_pleast_1) (b := [some (.val (.int ((room : Int) + 1))), some (.val (.lst (bs.map Blk.d))), some m, some (.val (.int (tot cs))), none, none, none, none, none]) (fun _ => .non) (ups 0 (tot cs)) [] (by simp) (by simp) (by
    intro d hd
    exact ⟨.val .non, by simp [m_pleast_1], rfl⟩)
  have hmap : (ups 0 (tot cs)).map (fun _ => DV.non) = List.replicate (tot cs) .non := by
    unfold ups
    rw [List.map_map]
    exact List.eq_replicate_iff.mpr ⟨by simp, by simp⟩
  rw [hmap, List.nil_append] at hlc
  have hNO : List.replicate (tot cs) DV.non ++ [.int 0] = NO (List.replicate (tot cs) none ++ [some 0]) := by simp [NO, oI]
  have h0 : Least bs cs room 0 (List.replicate (tot cs) none ++ [some 0]) := by
    refine ⟨by simp, ?_, fun s hs => ?_, fun s h1 h2 => absurd h2 (by omega)⟩
    · unfold lat
      rw [List.getElem?_append_right (by simp)]
      simp
    · unfold lat
      rw [List.getElem?_append_left (by simp; omega), List.getElem?_replicate]
      simp [show s < tot cs by omega]
  obtain ⟨s, e, L, y5, y6, y7, hL, rfl⟩ := loop_inv (p := .nm 5) (b := l_pleast_2) (fun k s => ∃ (L : List (Option Int)) (y5 y6 y7 : Option MV), Least bs cs room k L ∧ s = [some (.val (.int ((room : Int) + 1))), some (.val (.lst (bs.map Blk.d))), some m, some (.val (.int (tot cs))), some (.lst (NO L)), y5, y6, y7, none]) (dns ((tot cs : Int) - 1) (tot cs)) 0
    [some (.val (.int ((room : Int) + 1))), some (.val (.lst (bs.map Blk.d))), some m, some (.val (.int (tot cs))), some (.lst (NO (List.replicate (tot cs) none ++ [some 0]))), none, none, none, none] ⟨_, none, none, none, h0, rfl⟩ (by
    rintro i d s hd ⟨L, y5, y6, y7, hL, rfl⟩
    obtain ⟨rfl, hi⟩ := dns_get hd
    have hi : i < tot cs := by omega
    rw [Nat.zero_add] at hL
    have hst : (tot cs : Int) - 1 - i = ((tot cs - 1 - i : Nat) : Int) := by omega
    rw [hst]
    have hn := hL.next hi
    generalize hS : tot cs - 1 - i = st at *
    have hpe := pend_ok h hm room st hr (by omega)
    obtain ⟨z6, z7, q⟩ := pleast_in h hm room st hr (x3 := some (.val (.int (tot cs)))) (x8 := none) L hL.len (by omega) (endsF bs cs room st) none y6 y7 fun e he => by
      obtain ⟨b1, b2, _⟩ := ends_bd he
      exact ⟨b1, b2⟩
    rw [lat_none_set (hL.none_ st (by omega)) (by rw [hL.len]; omega)] at q
    refine ⟨[some (.val (.int ((room : Int) + 1))), some (.val (.lst (bs.map Blk.d))), some m, some (.val (.int (tot cs))), some (.lst (NO L)), some (.val (.int st)), y6, y7, none], _, by simp, .inl ?_, _, some (.val (.int st)), z6, z7, by rw [Nat.zero_add]; exact hn, rfl⟩
    simp only [NI] at hpe q
    rcases hm with rfl | rfl <;> simp [l_pleast_2, hpe, q])
  refine ⟨L, by rw [dns_len, Nat.zero_add] at hL; simpa using hL, ?_⟩
  have g1 : (0 : Int) ≤ (tot cs : Int) := by omega
  have g2 : (tot cs : Int) ≤ 4000000000 := by omega
  have g3 : tot cs + 1 ≤ sizeLine := le_size (by omega)
  have g4 : tot cs ≤ 10000000 := by omega
  have hsn := sum_NL cs
  rw [hsum] at hsn
  rw [← hNO] at e
  simp only [NL] at *
  rcases hm with rfl | rfl <;> simp [r_pleast, b_pleast, hsn, g2, g3, g4, hlc, e]
end Sy
namespace Sy
open PySem PySem.Spec PyProof.Rows L2
/-! ### prices that are judged -/
noncomputable def l_pacc_1 (C : Addr) : SM := (S.ife (T.val (E.bin gtD (E.bin ixD (E.var 4) (E.var 6)) (E.bin addD (E.meth C "cost" 3 (r_lcost C) (E.var 5) (A.cons (E.var 6) (A.cons (E.var 7) A.nil))) (E.bin ixD (E.var 4) (E.var 7))))) (S.ret 5 (E.c (.bl false))) S.nil)
noncomputable def l_pacc_2 (C : Addr) : SM := (S.forr (I.lst (E.meth C "ends" 2 (r_lends C) (E.var 5) (A.cons (E.var 6) A.nil))) (.nm 7) (l_pacc_1 C))
noncomputable def l_pacc_3 (C : Addr) : SM := (S.seq (S.ife (T.or (T.val (E.bin geD (E.var 6) (E.un (fldD C "total") (E.var 5)))) (T.val (E.bin ninD (E.var 7) (E.meth C "ends" 2 (r_lends C) (E.var 5) (A.cons (E.var 6) A.nil))))) (S.ret 5 (E.c (.bl false))) S.nil)
    (S.seq (S.ife (T.val (E.bin neD (E.bin ixD (E.var 4) (E.var 6)) (E.bin addD (E.meth C "cost" 3 (r_lcost C) (E.var 5) (A.cons (E.var 6) (A.cons (E.var 7) A.nil))) (E.bin ixD (E.var 4) (E.var 7))))) (S.ret 5 (E.c (.bl false))) S.nil)
    (S.asg 6 (E.var 7))))
noncomputable def b_pacc (C : Addr) : SM := (S.seq (S.asg 5 (E.make C 4 (r_linit C) (A.cons (E.var 0) (A.cons (E.var 1) (A.cons (E.var 2) A.nil)))))
    (S.seq (S.ife (T.or (T.val (E.bin neD (E.app lenD (A.cons (E.var 4) A.nil)) (E.bin addD (E.un (fldD C "total") (E.var 5)) (E.c (.int 1))))) (T.val (E.bin neD (E.bin ixD (E.var 4) (E.un negD (E.c (.int 1)))) (E.c (.int 0))))) (S.ret 5 (E.c (.bl false))) S.nil)
    (S.seq (S.forr (I.rng1 (A.cons (E.un (fldD C "total") (E.var 5)) A.nil)) (.nm 6) (l_pacc_2 C))
    (S.seq (S.asg 6 (E.c (.int 0)))
    (S.seq (S.forr (I.lst (E.var 3)) (.nm 7) (l_pacc_3 C))
    (S.ret 5 (E.bin eqD (E.var 6) (E.un (fldD C "total") (E.var 5)))))))))
noncomputable def r_pacc (C : Addr) : FM := fn 5 3 [5, 6, 7] (b_pacc C)
theorem atI_m1 {α : Type} {xs : List α} (h : xs ≠ []) : atI xs (-1) = xs[xs.length - 1]? := by
  have hl : 0 < xs.length := List.length_pos_iff.mpr h
  unfold atI ixN
  rw [if_neg (by omega), if_pos (by omega)]
  have : ((-1 : Int) + xs.length).toNat = xs.length - 1 := by omega
  simp only [Option.bind_some, this]
def pat (ps : List Int) (n : Nat) : Int := ps.getD n 0
theorem pat_at {ps : List Int} {n : Nat} (h : n < ps.length) : atI (ps.map DV.int) (n : Int) = some (.int (pat ps n)) := by
  rw [atI_n, List.getElem?_map, List.getElem?_eq_getElem h]
  unfold pat
  rw [List.getD_eq_getElem?_getD, List.getElem?_eq_getElem h]
  rfl
theorem NI_map (es : List Nat) : NI es = (es.map fun (x : Nat) => (x : Int)).map DV.int := by simp [NI]
section
variable {bs : List Blk} {cs : List Nat} {C : Addr} {m mD mP : MV} {room : Nat} {ps : List Int}
noncomputable def rowB (bs : List Blk) (cs : List Nat) (room : Nat) (ps : List Int) (s : Nat) (es : List Nat) : Bool := es.all fun e => decide (pat ps s ≤ costF bs cs room s e + pat ps e)
noncomputable def ineqB (bs : List Blk) (cs : List Nat) (room : Nat) (ps : List Int) (ss : List Nat) : Bool := ss.all fun s => rowB bs cs room ps s (endsF bs cs room s)
noncomputable def accG (bs : List Blk) (cs : List Nat) (room : Nat) (ps : List Int) : Nat → List Int → Bool
  | s, [] => decide (s = tot cs)
  | s, e :: D => if tot cs ≤ s ∨ ¬ e ∈ (endsF bs cs room s).map fun (x : Nat) => (x : Int) then false else if pat ps s ≠ costF bs cs room s e.toNat + pat ps e.toNat then false else accG bs cs room ps e.toNat D
noncomputable def accB (bs : List Blk) (cs : List Nat) (room : Nat) (ps : List Int) (D : List Int) : Bool := decide (ps.length = tot cs + 1) && (decide (pat ps (tot cs) = 0) && (ineqB bs cs room ps (List.range (tot cs)) && accG bs cs room ps 0 D))
/-- the slots of the judge -/
noncomputable abbrev accS (C : Addr) (bs : List Blk) (cs : List Nat) (room : Nat) (mD mP : MV) (x6 x7 : Option MV) : Sl := [some (.val (.int ((room : Int) + 1))), some (.val (.lst (bs.map Blk.d))), some (.val (.lst (NL cs))), some mD, some mP, some (layM C bs cs room), x6, x7]
theorem acc_row (h : Bk bs cs) (C : Addr) (hP : IsL mP (ps.map DV.int)) (hl : ps.length = tot cs + 1) (hr : room ≤ 1000) (s : Nat) (hs : s < tot cs) : ∀ (es : List Nat) (x7 : Option MV), (∀ e ∈ es, 1 ≤ e ∧ e ≤ tot cs) →
    ∃ y7, loop (.nm 7) (l_pacc_1 C) (NI es) (accS C bs cs room mD mP (some (.val (.int s))) x7) = if rowB bs cs room ps s es then .nx (accS C bs cs room mD mP (some (.val (.int s))) y7) else .ret (.val (.bl false)) (accS C bs cs room mD mP (some (.val (.int s))) y7)
  | [], x7, _ => ⟨x7, by simp [loop, rowB]⟩
  | e :: es, x7, he => by
    have ht := h.tot
    obtain ⟨e0, e1⟩ := he e (by simp)
    have hc := lcost_ok h C room s e hr (by omega) e0 e1
    have a1 := pat_at (ps := ps) (n := s) (by omega)
    have a2 := pat_at (ps := ps) (n := e) (by omega)
    have hv : mP.view = .lst (ps.map DV.int) := by rcases hP with rfl | rfl <;> rfl
    have step : l_pacc_1 C (accS C bs cs room mD mP (some (.val (.int s))) (some (.val (.int e)))) = if decide (pat ps s ≤ costF bs cs room s e + pat ps e) then .nx (accS C bs cs room mD mP (some (.val (.int s))) (some (.val (.int e)))) else .ret (.val (.bl false)) (accS C bs cs room mD mP (some (.val (.int s))) (some (.val (.int e)))) := by
      by_cases hcmp : pat ps s ≤ costF bs cs room s e + pat ps e
      · have : ¬ (costF bs cs room s e + pat ps e < pat ps s) := by omega
        simp [l_pacc_1, hv, a1, a2, hc, hcmp, this]
      · have : costF bs cs room s e + pat ps e < pat ps s := by omega
        simp [l_pacc_1, hv, a1, a2, hc, hcmp, this]
    obtain ⟨y7, ih⟩ := acc_row h C hP hl hr s hs es (some (.val (.int e))) fun x hx => he x (by simp [hx])
    have hb : bindP (.nm 7) (.int (e : Int)) (accS C bs cs room mD mP (some (.val (.int s))) x7) = some (accS C bs cs room mD mP (some (.val (.int s))) (some (.val (.int e)))) := by simp
    have hcons : NI (e :: es) = .int (e : Int) :: NI es := rfl
    rw [hcons]
    simp only [loop, hb, step]
    by_cases hcmp : pat ps s ≤ costF bs cs room s e + pat ps e
    · refine ⟨y7, ?_⟩
      rw [if_pos (decide_eq_true hcmp)]
      have e9 : rowB bs cs room ps s (e :: es) = rowB bs cs room ps s es := by unfold rowB; rw [List.all_cons, decide_eq_true hcmp, Bool.true_and]
      rw [e9]
      exact ih
    · refine ⟨some (.val (.int e)), ?_⟩
      rw [if_neg (by simpa using hcmp)]
      simp only [rowB, List.all_cons, decide_eq_false hcmp, Bool.false_and, Bool.false_eq_true, if_false]
theorem ends_mem1 {room s : Nat} : ∀ e ∈ endsF bs cs room s, 1 ≤ e ∧ e ≤ tot cs := fun e he => by
  obtain ⟨a, b, _⟩ := ends_bd he
  omega
theorem acc_rows (h : Bk bs cs) (C : Addr) (hP : IsL mP (ps.map DV.int)) (hl : ps.length = tot cs + 1) (hr : room ≤ 1000) : ∀ (ss : List Nat) (x6 x7 : Option MV), (∀ s ∈ ss, s < tot cs) →
    ∃ y6 y7, loop (.nm 6) (l_pacc_2 C) (NI ss) (accS C bs cs room mD mP x6 x7) = if ineqB bs cs room ps ss then .nx (accS C bs cs room mD mP y6 y7) else .ret (.val (.bl false)) (accS C bs cs room mD mP y6 y7)
  | [], x6, x7, _ => ⟨x6, x7, by simp [loop, ineqB]⟩
  | s :: ss, x6, x7, hs => by
    have hs0 := hs s (by simp)
    obtain ⟨y7, q⟩ := acc_row h C hP hl hr s hs0 (mD := mD) (endsF bs cs room s) x7 ends_mem1
    have hle := lends_ok h C room s hr (by omega)
    have step : l_pacc_2 C (accS C bs cs room mD mP (some (.val (.int s))) x7) = if rowB bs cs room ps s (endsF bs cs room s) then .nx (accS C bs cs room mD mP (some (.val (.int s))) y7) else .ret (.val (.bl false)) (accS C bs cs room mD mP (some (.val (.int s))) y7) := by
      rw [← q]
      simp only [NI] at hle
      simp [l_pacc_2, hle]
    have hb : bindP (.nm 6) (.int (s : Int)) (accS C bs cs room mD mP x6 x7) = some (accS C bs cs room mD mP (some (.val (.int s))) x7) := by simp
    have hcons : NI (s :: ss) = .int (s : Int) :: NI ss := rfl
    rw [hcons]
    simp only [loop, hb, step]
    obtain ⟨z6, z7, ih⟩ := acc_rows h C hP hl hr ss (some (.val (.int s))) y7 fun x hx => hs x (by simp [hx])
    cases hB : rowB bs cs room ps s (endsF bs cs room s) with
    | true =>
      refine ⟨z6, z7, ?_⟩
      have e9 : ineqB bs cs room ps (s :: ss) = ineqB bs cs room ps ss := by unfold ineqB; rw [List.all_cons, hB, Bool.true_and]
      rw [e9]
      exact ih
    | false =>
      refine ⟨some (.val (.int s)), y7, ?_⟩
      simp only [Bool.false_eq_true, if_false, ineqB, List.all_cons, hB, Bool.false_and]
theorem acc_go (h : Bk bs cs) (C : Addr) (hP : IsL mP (ps.map DV.int)) (hl : ps.length = tot cs + 1) (hr : room ≤ 1000) : ∀ (D : List Int) (s : Nat) (x7 : Option MV), s ≤ tot cs →
    ∃ y7, (∃ s' : Nat, loop (.nm 7) (l_pacc_3 C) (D.map DV.int) (accS C bs cs room mD mP (some (.val (.int s))) x7) = .nx (accS C bs cs room mD mP (some (.val (.int s'))) y7) ∧ accG bs cs room ps s D = decide (s' = tot cs)) ∨
      (∃ s' : Nat, loop (.nm 7) (l_pacc_3 C) (D.map DV.int) (accS C bs cs room mD mP (some (.val (.int s))) x7) = .ret (.val (.bl false)) (accS C bs cs room mD mP (some (.val (.int s'))) y7) ∧ accG bs cs room ps s D = false)
  | [], s, x7, _ => ⟨x7, .inl ⟨s, rfl, rfl⟩⟩
  | e :: D, s, x7, hs => by
    have ht := h.tot
    have hv : mP.view = .lst (ps.map DV.int) := by rcases hP with rfl | rfl <;> rfl
    have hb : bindP (.nm 7) (.int e) (accS C bs cs room mD mP (some (.val (.int s))) x7) = some (accS C bs cs room mD mP (some (.val (.int s))) (some (.val (.int e)))) := by simp
    rw [List.map_cons]
    by_cases c1 : tot cs ≤ s
    · have c1' : (tot cs : Int) ≤ (s : Int) := by omega
      refine ⟨some (.val (.int e)), .inr ⟨s, ?_, ?_⟩⟩
      · have step : l_pacc_3 C (accS C bs cs room mD mP (some (.val (.int s))) (some (.val (.int e)))) = .ret (.val (.bl false)) (accS C bs cs room mD mP (some (.val (.int s))) (some (.val (.int e)))) := by simp [l_pacc_3, c1']
        simp only [loop, hb, step]
      · rw [accG, if_pos (.inl c1)]
    have c1' : ¬ (tot cs : Int) ≤ (s : Int) := by omega
    have hle := lends_ok h C room s hr (by omega)
    have hni : ninD (.int e) (.lst (NI (endsF bs cs room s))) = bl (!decide (e ∈ (endsF bs cs room s).map fun (x : Nat) => (x : Int))) := by rw [NI_map, ninD_ints]
    generalize hT : NI (endsF bs cs room s) = T at *
    by_cases c2 : ¬ e ∈ (endsF bs cs room s).map fun (x : Nat) => (x : Int)
    · rw [decide_eq_false c2] at hni
      refine ⟨some (.val (.int e)), .inr ⟨s, ?_, ?_⟩⟩
      · have step : l_pacc_3 C (accS C bs cs room mD mP (some (.val (.int s))) (some (.val (.int e)))) = .ret (.val (.bl false)) (accS C bs cs room mD mP (some (.val (.int s))) (some (.val (.int e)))) := by simp [l_pacc_3, c1', hle, hni]
        simp only [loop, hb, step]
      · rw [accG, if_pos (.inr c2)]
    have c2 := Classical.not_not.mp c2
    rw [decide_eq_true c2] at hni
    obtain ⟨en, he, rfl⟩ := List.mem_map.mp c2
    obtain ⟨b1, b2⟩ := ends_mem1 en he
    have hc := lcost_ok h C room s en hr (by omega) b1 b2
    have a1 := pat_at (ps := ps) (n := s) (by omega)
    have a2 := pat_at (ps := ps) (n := en) (by omega)
    have hacc : accG bs cs room ps s ((en : Int) :: D) = if pat ps s ≠ costF bs cs room s en + pat ps en then false else accG bs cs room ps en D := by
      rw [accG, if_neg (by rintro (z | z); exact c1 z; exact z c2), Int.toNat_natCast]
    by_cases c3 : pat ps s = costF bs cs room s en + pat ps en
    · obtain ⟨y7, ih⟩ := acc_go h C hP hl hr D en (some (.val (.int en))) b2
      have step : l_pacc_3 C (accS C bs cs room mD mP (some (.val (.int s))) (some (.val (.int en)))) = .nx (accS C bs cs room mD mP (some (.val (.int en))) (some (.val (.int en)))) := by simp [l_pacc_3, hv, c1', hle, hni, a1, a2, hc, c3]
      rw [if_neg (by simpa using c3)] at hacc
      simp only [loop, hb, step]
      rw [hacc]
      exact ⟨y7, ih⟩
    · rw [if_pos c3] at hacc
      refine ⟨some (.val (.int en)), .inr ⟨s, ?_, hacc⟩⟩
      have step : l_pacc_3 C (accS C bs cs room mD mP (some (.val (.int s))) (some (.val (.int en)))) = .ret (.val (.bl false)) (accS C bs cs room mD mP (some (.val (.int s))) (some (.val (.int en)))) := by simp [l_pacc_3, hv, c1', hle, hni, a1, a2, hc, c3]
      simp only [loop, hb, step]
theorem pacc_ok (h : Bk bs cs) (C : Addr) {D : List Int} (hm : IsL m (NL cs)) (hD : IsL mD (D.map DV.int)) (hP : IsL mP (ps.map DV.int)) (hr : room ≤ 1000) :
    ∃ mD', IsL mD' (D.map DV.int) ∧ r_pacc C [.val (.int ((room : Int) + 1)), .val (.lst (bs.map Blk.d)), m, mD, mP] = .ok (.val (.bl (accB bs cs room ps D))) [.val (.int ((room : Int) + 1)), .val (.lst (bs.map Blk.d)), .val (.lst (NL cs)), mD', mP] := by
  have ht := h.tot
  have hi := linit_ok h (C := C) hm room
  have hv : mP.view = .lst (ps.map DV.int) := by rcases hP with rfl | rfl <;> rfl
  by_cases c1 : ¬ ps.length = tot cs + 1
  · have c1' : ¬ ((ps.length : Int) = (tot cs : Int) + 1) := by omega
    have e0 : accB bs cs room ps D = false := by unfold accB; rw [decide_eq_false c1]; rfl
    rw [e0]
    refine ⟨mD, hD, ?_⟩
    rcases hm with rfl | rfl <;> simp [r_pacc, b_pacc, hi, hv, c1']
  have c1 := Classical.not_not.mp c1
  have c1' : (ps.length : Int) = (tot cs : Int) + 1 := by omega
  have alast : atI (ps.map DV.int) (-1) = some (.int (pat ps (tot cs))) := by
    rw [atI_m1 (by intro z; rw [List.map_eq_nil_iff] at z; rw [z] at c1; simp at c1), ← atI_n, List.length_map, c1]
    exact pat_at (by omega)
  by_cases c2 : ¬ pat ps (tot cs) = 0
  · have e0 : accB bs cs room ps D = false := by unfold accB; rw [decide_eq_false c2]; simp
    rw [e0]
    refine ⟨mD, hD, ?_⟩
    rcases hm with rfl | rfl <;> simp [r_pacc, b_pacc, hi, hv, c1', alast, c2]
  have c2 := Classical.not_not.mp c2
  obtain ⟨y6, y7, q⟩ := acc_rows h C hP c1 hr (mD := mD) (List.range (tot cs)) none none fun s hs => by simpa using hs
  have hrg : NI (List.range (tot cs)) = ups 0 (tot cs) := by unfold NI ups; simp
  rw [hrg] at q
  have g2 : (tot cs : Int) ≤ 4000000000 := by omega
  cases hB : ineqB bs cs room ps (List.range (tot cs)) with
  | false =>
    have e0 : accB bs cs room ps D = false := by unfold accB; rw [hB]; simp
    rw [e0]
    rw [hB, if_neg Bool.false_ne_true] at q
    refine ⟨mD, hD, ?_⟩
    rcases hm with rfl | rfl <;> simp [r_pacc, b_pacc, hi, hv, c1', alast, c2, g2, q]
  | true =>
    rw [hB, if_pos rfl] at q
    obtain ⟨z7, q2⟩ := acc_go h C hP c1 hr (mD := .val (.lst (D.map DV.int))) D 0 y7 (by omega)
    have e0 : accB bs cs room ps D = accG bs cs room ps 0 D := by unfold accB; rw [hB, decide_eq_true c1, decide_eq_true c2]; simp
    rw [e0]
    refine ⟨.val (.lst (D.map DV.int)), .inl rfl, ?_⟩
    have hset : ∀ z6 z7, settle1 (.pl 3) (accS C bs cs room mD mP z6 z7) = some (.lst (D.map DV.int), accS C bs cs room (.val (.lst (D.map DV.int))) mP z6 z7) := by
      intro z6 z7
      rcases hD with rfl | rfl <;> simp
    rcases q2 with ⟨s', q2, q3⟩ | ⟨s', q2, q3⟩
    · rw [q3]
      simp only [Int.ofNat_zero] at q2
      have e9 : decide (s' = tot cs) = decide ((s' : Int) = (tot cs : Int)) := by
        by_cases z : s' = tot cs
        · simp [z]
        · have : ¬ (s' : Int) = (tot cs : Int) := by omega
          simp [z, this]
      rw [e9]
      rcases hm with rfl | rfl <;> rcases hD with rfl | rfl <;> simp [r_pacc, b_pacc, hi, hv, c1', alast, c2, g2, q, q2]
    · rw [q3]
      simp only [Int.ofNat_zero] at q2
      rcases hm with rfl | rfl <;> rcases hD with rfl | rfl <;> simp [r_pacc, b_pacc, hi, hv, c1', alast, c2, g2, q, q2]
end
end Sy
namespace Sy
open PySem PySem.Spec PyProof.Rows L2
/-! ### ways of pages -/
section
variable {bs : List Blk} {cs : List Nat} {room : Nat} {L : List (Option Int)} {ps : List Int}
def PathT (bs : List Blk) (cs : List Nat) (room : Nat) : Nat → List Nat → Nat → Prop
  | s, [], t => s = t
  | s, e :: D, t => s < tot cs ∧ e ∈ endsF bs cs room s ∧ PathT bs cs room e D t
abbrev PathF (bs : List Blk) (cs : List Nat) (room s : Nat) (D : List Nat) : Prop := PathT bs cs room s D (tot cs)
def pcF (bs : List Blk) (cs : List Nat) (room : Nat) : Nat → List Nat → Int
  | _, [] => 0
  | s, e :: D => costF bs cs room s e + pcF bs cs room e D
theorem PathT.snoc : ∀ {D : List Nat} {s t e : Nat}, PathT bs cs room s D t → t < tot cs → e ∈ endsF bs cs room t → PathT bs cs room s (D ++ [e]) e
  | [], s, t, e, h, ht, he => by
    have : s = t := h
    subst this
    exact ⟨ht, he, rfl⟩
  | x :: D, s, t, e, h, ht, he => ⟨h.1, h.2.1, PathT.snoc h.2.2 ht he⟩
theorem PathT.mem : ∀ {D : List Nat} {s t : Nat}, PathT bs cs room s D t → ∀ e ∈ D, 1 ≤ e ∧ e ≤ tot cs
  | [], _, _, _, e, he => by simp at he
  | x :: D, s, t, h, e, he => by
    rcases List.mem_cons.mp he with rfl | he
    · exact ends_mem1 _ h.2.1
    · exact h.2.2.mem e he
theorem Least.le (h : Least bs cs room (tot cs) L) {s e : Nat} {c : Int} (hs : s < tot cs) (he : e ∈ endsF bs cs room s) (hc : lat L e = some c) : ∃ d, lat L s = some d ∧ d ≤ costF bs cs room s e + c := by
  obtain ⟨d, e1, e2⟩ := (bestOf_le L (costF bs cs room s) (endsF bs cs room s) none).2.1 e he c hc
  exact ⟨d, by rw [h.best s (by omega) hs]; exact e1, e2⟩
theorem Least.ex (h : Least bs cs room (tot cs) L) {s : Nat} {d : Int} (hs : s < tot cs) (hd : lat L s = some d) : ∃ e ∈ endsF bs cs room s, ∃ c, lat L e = some c ∧ d = costF bs cs room s e + c := by
  rw [h.best s (by omega) hs] at hd
  rcases (bestOf_le L (costF bs cs room s) (endsF bs cs room s) none).2.2 d hd with z | z
  · cases z
  · exact z
theorem Least.bd (h : Least bs cs room (tot cs) L) (hr : room ≤ 20) : ∀ (k s : Nat) (d : Int), s + k = tot cs → lat L s = some d → 0 ≤ d ∧ d ≤ 400 * k := by
  intro k
  induction k using Nat.strongRecOn with
  | _ k ih =>
    intro s d hk hd
    by_cases hs : s < tot cs
    · obtain ⟨e, he, c, hc, rfl⟩ := h.ex hs hd
      obtain ⟨b1, b2, b3⟩ := ends_bd he
      obtain ⟨i1, i2⟩ := ih (tot cs - e) (by omega) e c (by omega) hc
      have c1 := cost_nn bs cs room s e
      have c2 := cost_le bs cs b1 b3 hr
      omega
    · have : s = tot cs := by omega
      subst this
      rw [h.last] at hd
      cases hd
      omega
theorem path_least (h : Least bs cs room (tot cs) L) : ∀ {D : List Nat} {s : Nat}, PathF bs cs room s D → ∃ d, lat L s = some d ∧ d ≤ pcF bs cs room s D
  | [], s, hp => by
    have : s = tot cs := hp
    subst this
    exact ⟨0, h.last, Int.le_refl _⟩
  | e :: D, s, hp => by
    obtain ⟨c, hc, hl⟩ := path_least h (show PathF bs cs room e D from hp.2.2)
    obtain ⟨d, hd, hl2⟩ := h.le hp.1 hp.2.1 hc
    exact ⟨d, hd, by show d ≤ costF bs cs room s e + pcF bs cs room e D; omega⟩
theorem accG_cons {s e : Nat} {D : List Nat} (hs : s < tot cs) (he : e ∈ endsF bs cs room s) : accG bs cs room ps s ((e :: D).map fun (x : Nat) => (x : Int)) = (decide (pat ps s = costF bs cs room s e + pat ps e) && accG bs cs room ps e (D.map fun (x : Nat) => (x : Int))) := by
  rw [List.map_cons, accG, if_neg (by
    rintro (z | z)
    · omega
    · exact z (List.mem_map.mpr ⟨e, he, rfl⟩)), Int.toNat_natCast]
  by_cases hq : pat ps s = costF bs cs room s e + pat ps e
  · rw [if_neg (by simpa using hq), decide_eq_true hq, Bool.true_and]
  · rw [if_pos hq, decide_eq_false hq, Bool.false_and]
theorem acc_sum : ∀ {D : List Nat} {s : Nat}, PathF bs cs room s D → accG bs cs room ps s (D.map fun (x : Nat) => (x : Int)) = true → pat ps s = pcF bs cs room s D + pat ps (tot cs)
  | [], s, hp, _ => by
    have : s = tot cs := hp
    subst this
    simp [pcF]
  | e :: D, s, hp, ha => by
    rw [accG_cons hp.1 hp.2.1, Bool.and_eq_true, decide_eq_true_eq] at ha
    have := acc_sum (show PathF bs cs room e D from hp.2.2) ha.2
    show _ = costF bs cs room s e + pcF bs cs room e D + _
    omega
theorem ineq_of (h : ineqB bs cs room ps (List.range (tot cs)) = true) {s e : Nat} (hs : s < tot cs) (he : e ∈ endsF bs cs room s) : pat ps s ≤ costF bs cs room s e + pat ps e := by
  unfold ineqB at h
  have h1 := (List.all_eq_true.mp h) s (by simpa using hs)
  unfold rowB at h1
  exact of_decide_eq_true ((List.all_eq_true.mp h1) e he)
theorem low_of (h : Least bs cs room (tot cs) L) (hq : ∀ s e, s < tot cs → e ∈ endsF bs cs room s → pat ps s ≤ costF bs cs room s e + pat ps e) (h0 : pat ps (tot cs) = 0) : ∀ (k s : Nat) (d : Int), s + k = tot cs → lat L s = some d → pat ps s ≤ d := by
  intro k
  induction k using Nat.strongRecOn with
  | _ k ih =>
    intro s d hk hd
    by_cases hs : s < tot cs
    · obtain ⟨e, he, c, hc, rfl⟩ := h.ex hs hd
      obtain ⟨b1, b2, b3⟩ := ends_bd he
      have := ih (tot cs - e) (by omega) e c (by omega) hc
      have := hq s e hs he
      omega
    · have : s = tot cs := by omega
      subst this
      rw [h.last] at hd
      cases hd
      omega
/-- accepted prices show the least cost -/
theorem acc_least (h : Least bs cs room (tot cs) L) {D : List Nat} (hp : PathF bs cs room 0 D) {d : Int} (hd : lat L 0 = some d) (ha : accB bs cs room ps (D.map fun (x : Nat) => (x : Int)) = true) : pcF bs cs room 0 D = d ∧ pat ps 0 = pcF bs cs room 0 D := by
  unfold accB at ha
  rw [Bool.and_eq_true, Bool.and_eq_true, Bool.and_eq_true, decide_eq_true_eq, decide_eq_true_eq] at ha
  obtain ⟨_, h0, h1, h2⟩ := ha
  have e1 := acc_sum hp h2
  have e2 := low_of h (fun s e hs he => ineq_of h1 hs he) h0 (tot cs) 0 d (by omega) hd
  obtain ⟨d', hd', e3⟩ := path_least h hp
  rw [hd] at hd'
  cases hd'
  omega
/-- the least costs themselves, a great number where there is no way -/
def plainP (L : List (Option Int)) : List Int := L.map fun o => o.getD 1000000
theorem plain_at {n : Nat} (h : n < L.length) : pat (plainP L) n = (lat L n).getD 1000000 := by
  unfold pat plainP lat
  rw [List.getD_eq_getElem?_getD, List.getElem?_map, List.getElem?_eq_getElem h]
  rfl
theorem plain_go (h : Least bs cs room (tot cs) L) : ∀ {D : List Nat} {s : Nat}, PathF bs cs room s D → ∃ d, lat L s = some d ∧ d ≤ pcF bs cs room s D ∧ accG bs cs room (plainP L) s (D.map fun (x : Nat) => (x : Int)) = decide (d = pcF bs cs room s D)
  | [], s, hp => by
    have : s = tot cs := hp
    subst this
    exact ⟨0, h.last, Int.le_refl _, by simp [accG, pcF]⟩
  | e :: D, s, hp => by
    obtain ⟨c, hc, hl, ha⟩ := plain_go h (show PathF bs cs room e D from hp.2.2)
    obtain ⟨d, hd, hl2⟩ := h.le hp.1 hp.2.1 hc
    have b := ends_mem1 e hp.2.1
    have p1 := plain_at (L := L) (n := s) (by rw [h.len]; have := hp.1; omega)
    have p2 := plain_at (L := L) (n := e) (by rw [h.len]; omega)
    rw [hd] at p1
    rw [hc] at p2
    simp only [Option.getD_some] at p1 p2
    refine ⟨d, hd, by show d ≤ costF bs cs room s e + pcF bs cs room e D; omega, ?_⟩
    rw [accG_cons hp.1 hp.2.1, ha, p1, p2]
    show _ = decide (d = costF bs cs room s e + pcF bs cs room e D)
    by_cases q1 : d = costF bs cs room s e + c
    · by_cases q2 : c = pcF bs cs room e D
      · have q3 : d = costF bs cs room s e + pcF bs cs room e D := by omega
        rw [decide_eq_true q1, decide_eq_true q2, decide_eq_true q3, Bool.true_and]
      · have q3 : ¬ d = costF bs cs room s e + pcF bs cs room e D := by omega
        rw [decide_eq_true q1, decide_eq_false q2, decide_eq_false q3, Bool.true_and]
    · have q3 : ¬ d = costF bs cs room s e + pcF bs cs room e D := by omega
      rw [decide_eq_false q1, decide_eq_false q3, Bool.false_and]
theorem plain_acc (h : Least bs cs room (tot cs) L) (hr : room ≤ 20) (ht : tot cs ≤ 600) {D : List Nat} (hp : PathF bs cs room 0 D) {d : Int} (hd : lat L 0 = some d) : accB bs cs room (plainP L) (D.map fun (x : Nat) => (x : Int)) = decide (d = pcF bs cs room 0 D) := by
  obtain ⟨d', hd', _, ha⟩ := plain_go h hp
  rw [hd] at hd'
  cases hd'
  have e1 : (plainP L).length = tot cs + 1 := by simp [plainP, h.len]
  have e2 : pat (plainP L) (tot cs) = 0 := by rw [plain_at (by rw [h.len]; omega), h.last]; rfl
  have e3 : ineqB bs cs room (plainP L) (List.range (tot cs)) = true := by
    unfold ineqB
    rw [List.all_eq_true]
    intro s hs
    have hs : s < tot cs := by simpa using hs
    unfold rowB
    rw [List.all_eq_true]
    intro e he
    have b := ends_mem1 e he
    have c0 := cost_nn bs cs room s e
    rw [decide_eq_true_eq, plain_at (by rw [h.len]; omega), plain_at (by rw [h.len]; omega)]
    cases hc : lat L e with
    | some c =>
      obtain ⟨d, e4, e5⟩ := h.le hs he hc
      rw [e4]
      exact e5
    | none =>
      cases hd : lat L s with
      | none => simp only [Option.getD_none]; omega
      | some d =>
        have := (h.bd hr (tot cs - s) s d (by omega) hd).2
        simp only [Option.getD_none, Option.getD_some]
        omega
  unfold accB
  rw [decide_eq_true e1, decide_eq_true e2, e3, ha]
  simp
end
end Sy
namespace Sy
open PySem PySem.Spec PyProof.Rows L2
/-- a statement that is not reached -/
def S.never : SM := fun _ => .stuck
@[simp] theorem S.never_eq {sl : Sl} : S.never sl = .stuck := rfl
theorem ss_never {X : Cx} {as : List Nat} {st : Stmt} : SS X st S.never as := fun Wx tk => ps_never.imp fun D σ H q => by
  obtain ⟨O, W, sl, x, q⟩ := q
  exact q.elim
/-! ### the best ends, from the end on -/
noncomputable def m_lbest_1 : EM := (E.c .non)
noncomputable def l_lbest_1 (C : Addr) : SM := (S.ife (T.val (E.bin isntD (E.bin ixD (E.var 1) (E.var 3)) (E.c .non))) (S.seq (S.asg 4 (E.bin addD (E.meth C "cost" 3 (r_lcost C) (E.var 0) (A.cons (E.var 2) (A.cons (E.var 3) A.nil))) (E.bin ixD (E.bin ixD (E.var 1) (E.var 3)) (E.c (.int 0)))))
    (S.ife (T.or (T.val (E.bin isD2 (E.bin ixD (E.var 1) (E.var 2)) (E.c .non))) (T.val (E.bin leD (E.var 4) (E.bin ixD (E.bin ixD (E.var 1) (E.var 2)) (E.c (.int 0)))))) (S.seti 1 (E.var 2) (E.tup (A.cons (E.var 4) (A.cons (E.var 3) A.nil)))) S.nil)) S.nil)
noncomputable def l_lbest_2 (C : Addr) : SM := (S.forr (I.lst (E.meth C "ends" 2 (r_lends C) (E.var 0) (A.cons (E.var 2) A.nil))) (.nm 3) (l_lbest_1 C))
noncomputable def b_lbest (C : Addr) : SM := (S.seq (S.asg 1 (E.bin addD (E.lc (I.rng1 (A.cons (E.un (fldD C "total") (E.var 0)) A.nil)) (.nm 5) T.yes m_lbest_1 [5]) (E.lst (A.cons (E.tup (A.cons (E.c (.int 0)) (A.cons (E.un (fldD C "total") (E.var 0)) A.nil))) A.nil))))
    (S.seq (S.forr (I.rngD (A.cons (E.bin subD (E.un (fldD C "total") (E.var 0)) (E.c (.int 1))) (A.cons (E.un negD (E.c (.int 1))) (A.cons (E.un negD (E.c (.int 1))) A.nil)))) (.nm 2) (l_lbest_2 C))
    (S.ret 1 (E.var 1))))
noncomputable def r_lbest (C : Addr) : FM := fn 1 5 [1, 2, 3, 4] (b_lbest C)
def fE : Option (Int × Nat) → DV
  | none => .non
  | some p => .tup [.int p.1, .int p.2]
def NF (l : List (Option (Int × Nat))) : List DV := l.map fE
@[simp] theorem NF_len {l : List (Option (Int × Nat))} : (NF l).length = l.length := by simp [NF]
def fat (F : List (Option (Int × Nat))) (n : Nat) : Option (Int × Nat) := (F[n]?).join
theorem NF_at {F : List (Option (Int × Nat))} {n : Nat} (h : n < F.length) : atI (NF F) (n : Int) = some (fE (fat F n)) := by
  rw [atI_n, NF, List.getElem?_map]
  unfold fat
  rw [List.getElem?_eq_getElem h]
  rfl
theorem NF_set {F : List (Option (Int × Nat))} {n : Nat} {c : Int} {e : Nat} : (NF F).set n (.tup [.int c, .int e]) = NF (F.set n (some (c, e))) := by
  unfold NF
  rw [List.map_set]
  rfl
theorem fat_set {F : List (Option (Int × Nat))} {n k : Nat} {o : Option (Int × Nat)} (h : n < F.length) : fat (F.set n o) k = if k = n then o else fat F k := by
  unfold fat
  by_cases hk : k = n
  · subst hk
    rw [List.getElem?_set_self h, if_pos rfl]
    rfl
  · rw [List.getElem?_set_ne (Ne.symm hk), if_neg hk]
theorem fat_none_set {F : List (Option (Int × Nat))} {n : Nat} (h : fat F n = none) (hn : n < F.length) : F.set n none = F := by
  apply List.ext_getElem?
  intro j
  by_cases hj : j = n
  · subst hj
    rw [List.getElem?_set_self hn]
    unfold fat at h
    rw [List.getElem?_eq_getElem hn] at h ⊢
    simp at h
    rw [h]
  · rw [List.getElem?_set_ne (Ne.symm hj)]
/-- as good or better -/
def better2 (o : Option (Int × Nat)) (c : Int) (e : Nat) : Option (Int × Nat) := match o with
  | none => some (c, e)
  | some p => if c ≤ p.1 then some (c, e) else some p
def bestOf2 (F : List (Option (Int × Nat))) (f : Nat → Int) : List Nat → Option (Int × Nat) → Option (Int × Nat)
  | [], o => o
  | e :: es, o => bestOf2 F f es (match fat F e with
    | none => o
    | some p => better2 o (f e + p.1) e)
theorem bestOf2_congr {F F' : List (Option (Int × Nat))} {f : Nat → Int} : ∀ {es : List Nat} {o : Option (Int × Nat)}, (∀ e ∈ es, fat F e = fat F' e) → bestOf2 F f es o = bestOf2 F' f es o
  | [], _, _ => rfl
  | e :: es, o, h => by
    unfold bestOf2
    rw [h e (by simp)]
    exact bestOf2_congr fun x hx => h x (List.mem_cons_of_mem _ hx)
/-- the first parts are the least costs -/
theorem bestOf2_fst {F : List (Option (Int × Nat))} {L : List (Option Int)} {f : Nat → Int} : ∀ {es : List Nat} {o : Option (Int × Nat)}, (∀ e ∈ es, lat L e = (fat F e).map Prod.fst) → (bestOf2 F f es o).map Prod.fst = bestOf L f es (o.map Prod.fst)
  | [], _, _ => rfl
  | e :: es, o, h => by
    unfold bestOf2 bestOf
    rw [bestOf2_fst fun x hx => h x (List.mem_cons_of_mem _ hx), h e (by simp)]
    congr 1
    cases hf : fat F e with
    | none => rfl
    | some p =>
      simp only [Option.map_some, better2, better]
      cases o with
      | none => rfl
      | some q =>
        simp only [Option.map_some]
        by_cases h1 : f e + p.1 ≤ q.1
        · rw [if_pos h1]
          by_cases h2 : f e + p.1 < q.1
          · rw [if_pos h2]; rfl
          · rw [if_neg h2]
            have : f e + p.1 = q.1 := by omega
            simp [this]
        · rw [if_neg h1, if_neg (by omega)]; rfl
/-- the second part is the last end that costs so much -/
theorem bestOf2_last {F : List (Option (Int × Nat))} {f : Nat → Int} : ∀ {es : List Nat} {o : Option (Int × Nat)} {d : Int} {x : Nat}, bestOf2 F f es o = some (d, x) →
    (o = some (d, x) ∧ ∀ e ∈ es, ∀ p, fat F e = some p → d < f e + p.1) ∨ (∃ es1 es2, es = es1 ++ x :: es2 ∧ (∃ p, fat F x = some p ∧ d = f x + p.1) ∧ ∀ e ∈ es2, ∀ p, fat F e = some p → d < f e + p.1)
  | [], o, d, x, h => .inl ⟨h, fun e he => by simp at he⟩
  | e :: es, o, d, x, h => by
    unfold bestOf2 at h
    rcases bestOf2_last h with ⟨h1, h2⟩ | ⟨es1, es2, h1, h2, h3⟩
    · cases hf : fat F e with
      | none =>
        rw [hf] at h1
        refine .inl ⟨h1, fun y hy p hp => ?_⟩
        rcases List.mem_cons.mp hy with rfl | hy
        · rw [hf] at hp; cases hp
        · exact h2 y hy p hp
      | some p =>
        rw [hf] at h1
        simp only [better2] at h1
        have take : f e + p.1 = d → e = x → (∃ es1 es2, e :: es = es1 ++ x :: es2 ∧ (∃ p, fat F x = some p ∧ d = f x + p.1) ∧ ∀ y ∈ es2, ∀ p, fat F y = some p → d < f y + p.1) := fun a b => by
          subst b
          exact ⟨[], es, rfl, ⟨p, hf, a.symm⟩, h2⟩
        cases o with
        | none =>
          cases h1
          exact .inr (take rfl rfl)
        | some q =>
          simp only at h1
          by_cases hle : f e + p.1 ≤ q.1
          · rw [if_pos hle] at h1
            cases h1
            exact .inr (take rfl rfl)
          · rw [if_neg hle] at h1
            cases h1
            refine .inl ⟨rfl, fun y hy p' hp => ?_⟩
            rcases List.mem_cons.mp hy with rfl | hy
            · rw [hf] at hp; cases hp; omega
            · exact h2 y hy p' hp
    · exact .inr ⟨e :: es1, es2, by rw [h1]; rfl, h2, h3⟩
structure Best (bs : List Blk) (cs : List Nat) (room i : Nat) (F : List (Option (Int × Nat))) : Prop where
  len : F.length = tot cs + 1
  last : fat F (tot cs) = some (0, tot cs)
  none_ : ∀ s, s < tot cs - i → fat F s = none
  best : ∀ s, tot cs - i ≤ s → s < tot cs → fat F s = bestOf2 F (costF bs cs room s) (endsF bs cs room s) none
theorem Best.next {bs : List Blk} {cs : List Nat} {room i : Nat} {F : List (Option (Int × Nat))} (h : Best bs cs room i F) (hi : i < tot cs) : Best bs cs room (i + 1) (F.set (tot cs - 1 - i) (bestOf2 F (costF bs cs room (tot cs - 1 - i)) (endsF bs cs room (tot cs - 1 - i)) none)) := by
  have hl : tot cs - 1 - i < F.length := by rw [h.len]; omega
  refine ⟨by simpa using h.len, ?_, fun s hs => ?_, fun s h1 h2 => ?_⟩
  · rw [fat_set hl, if_neg (by omega)]
    exact h.last
  · rw [fat_set hl, if_neg (by omega)]
    exact h.none_ s (by omega)
  · rw [fat_set hl]
    by_cases hs : s = tot cs - 1 - i
    · subst hs
      rw [if_pos rfl]
      refine bestOf2_congr fun e he => ?_
      obtain ⟨b1, _, _⟩ := ends_bd he
      rw [fat_set hl, if_neg (by omega)]
    · rw [if_neg hs, h.best s (by omega) h2]
      refine bestOf2_congr fun e he => ?_
      obtain ⟨b1, _, _⟩ := ends_bd he
      rw [fat_set hl, if_neg (by omega)]
theorem Best.fst {bs : List Blk} {cs : List Nat} {room : Nat} {F : List (Option (Int × Nat))} {L : List (Option Int)} (h : Best bs cs room (tot cs) F) (g : Least bs cs room (tot cs) L) : ∀ (k s : Nat), s + k = tot cs → lat L s = (fat F s).map Prod.fst := by
  intro k
  induction k using Nat.strongRecOn with
  | _ k ih =>
    intro s hk
    by_cases hs : s < tot cs
    · rw [h.best s (by omega) hs, g.best s (by omega) hs, bestOf2_fst (L := L)]
      · rfl
      · intro e he
        obtain ⟨b1, b2, _⟩ := ends_bd he
        exact ih (tot cs - e) (by omega) e (by omega)
    · have : s = tot cs := by omega
      subst this
      rw [h.last, g.last]
      rfl
theorem lbest_in {bs : List Blk} {cs : List Nat} (h : Bk bs cs) (C : Addr) (room st : Nat) (hr : room ≤ 1000) {x5 : Option MV} (F : List (Option (Int × Nat))) (hF : F.length = tot cs + 1) (hst : st < tot cs) : ∀ (es : List Nat) (o : Option (Int × Nat)) (x3 x4 : Option MV), (∀ e ∈ es, st < e ∧ e ≤ tot cs) →
    ∃ y3 y4, loop (.nm 3) (l_lbest_1 C) (NI es) [some (layM C bs cs room), some (.lst (NF (F.set st o))), some (.val (.int st)), x3, x4, x5] =
      .nx [some (layM C bs cs room), some (.lst (NF (F.set st (bestOf2 F (costF bs cs room st) es o)))), some (.val (.int st)), y3, y4, x5]
  | [], o, x3, x4, _ => ⟨x3, x4, rfl⟩
  | e :: es, o, x3, x4, he => by
    have ht := h.tot
    obtain ⟨e0, e1⟩ := he e (by simp)
    have hco := lcost_ok h C room st e hr (by omega) (by omega) e1
    have hlen : (F.set st o).length = tot cs + 1 := by simpa using hF
    have a1 := NF_at (F := F.set st o) (n := e) (by omega)
    rw [fat_set (by omega), if_neg (by omega)] at a1
    have a2 := NF_at (F := F.set st o) (n := st) (by omega)
    rw [fat_set (by omega), if_pos rfl] at a2
    have a3 : ixN (NF (F.set st o)).length (st : Int) = some st := ixN_n (by simp; omega)
    generalize hc : costF bs cs room st e = c at hco
    have step : ∃ y4, l_lbest_1 C [some (layM C bs cs room), some (.lst (NF (F.set st o))), some (.val (.int st)), some (.val (.int e)), x4, x5] =
        .nx [some (layM C bs cs room), some (.lst (NF (F.set st (match fat F e with | none => o | some p => better2 o (c + p.1) e)))), some (.val (.int st)), some (.val (.int e)), y4, x5] := by
      cases hl : fat F e with
      | none =>
        rw [hl] at a1
        simp only [fE] at a1
        exact ⟨x4, by simp [l_lbest_1, a1]⟩
      | some p =>
        rw [hl] at a1
        have hs : ∀ v : Int, (NF (F.set st o)).set st (.tup [.int v, .int e]) = NF (F.set st (some (v, e))) := fun v => by rw [NF_set, List.set_set]
        cases o with
        | none =>
          refine ⟨some (.val (.int (c + p.1))), ?_⟩
          simp only [better2]
          rw [← hs (c + p.1)]
          simp only [fE] at a1 a2
          generalize NF (F.set st none) = T at *
          simp [l_lbest_1, a1, a2, a3, hco]
        | some q =>
          refine ⟨some (.val (.int (c + p.1))), ?_⟩
          simp only [better2]
          by_cases hlt : c + p.1 ≤ q.1
          · rw [if_pos hlt, ← hs (c + p.1)]
            simp only [fE] at a1 a2
            generalize NF (F.set st (some q)) = T at *
            simp [l_lbest_1, a1, a2, a3, hco, hlt]
          · rw [if_neg hlt]
            simp only [fE] at a1 a2
            generalize NF (F.set st (some q)) = T at *
            simp [l_lbest_1, a1, a2, a3, hco, hlt]
    obtain ⟨y4, step⟩ := step
    obtain ⟨z3, z4, ih⟩ := lbest_in h C room st hr (x5 := x5) F hF hst es (match fat F e with | none => o | some p => better2 o (c + p.1) e) (some (.val (.int e))) y4 fun x hx => he x (by simp [hx])
    refine ⟨z3, z4, ?_⟩
    have hb : bindP (.nm 3) (.int (e : Int)) [some (layM C bs cs room), some (.lst (NF (F.set st o))), some (.val (.int st)), x3, x4, x5] = some [some (layM C bs cs room), some (.lst (NF (F.set st o))), some (.val (.int st)), some (.val (.int e)), x4, x5] := by simp
    have hcons : NI (e :: es) = .int (e : Int) :: NI es := rfl
    rw [hcons]
    simp only [loop, hb, step, ih, bestOf2, hc]
theorem lbest_ok {bs : List Blk} {cs : List Nat} (h : Bk bs cs) (C : Addr) (room : Nat) (hr : room ≤ 1000) :
    ∃ F, Best bs cs room (tot cs) F ∧ r_lbest C [layM C bs cs room] = .ok (.lst (NF F)) [layM C bs cs room] := by
  have ht := h.tot
  have hlc := lcl_read (i := 5) (m := m_lbest_1) (b := [some (layM C bs cs room), none, none, none, none, none]) (fun _ => .non) (ups 0 (tot cs)) [] (by simp) (by simp) (by
    intro d hd
    exact ⟨.val .non, by simp [m_lbest_1], rfl⟩)
  have hmap : (ups 0 (tot cs)).map (fun _ => DV.non) = List.replicate (tot cs) .non := by
    unfold ups
    rw [List.map_map]
    exact List.eq_replicate_iff.mpr ⟨by simp, by simp⟩
  rw [hmap, List.nil_append] at hlc
  have hNF : List.replicate (tot cs) DV.non ++ [.tup [.int 0, .int (tot cs)]] = NF (List.replicate (tot cs) none ++ [some (0, tot cs)]) := by simp [NF, fE]
  have h0 : Best bs cs room 0 (List.replicate (tot cs) none ++ [some (0, tot cs)]) := by
    refine ⟨by simp, ?_, fun s hs => ?_, fun s h1 h2 => absurd h2 (by omega)⟩
    · unfold fat
      rw [List.getElem?_append_right (by simp)]
      simp
    · unfold fat
      rw [List.getElem?_append_left (by simp; omega), List.getElem?_replicate]
      simp [show s < tot cs by omega]
  obtain ⟨s, e, F, y2, y3, y4, hF, rfl⟩ := loop_inv (p := .nm 2) (b := l_lbest_2 C) (fun k s => ∃ (F : List (Option (Int × Nat))) (y2 y3 y4 : Option MV), Best bs cs room k F ∧ s = [some (layM C bs cs room), some (.lst (NF F)), y2, y3, y4, none]) (dns ((tot cs : Int) - 1) (tot cs)) 0
    [some (layM C bs cs room), some (.lst (NF (List.replicate (tot cs) none ++ [some (0, tot cs)]))), none, none, none, none] ⟨_, none, none, none, h0, rfl⟩ (by
    rintro i d s hd ⟨F, y2, y3, y4, hF, rfl⟩
    obtain ⟨rfl, hi⟩ := dns_get hd
    have hi : i < tot cs := by omega
    rw [Nat.zero_add] at hF
    have hst : (tot cs : Int) - 1 - i = ((tot cs - 1 - i : Nat) : Int) := by omega
    rw [hst]
    have hn := hF.next hi
    generalize hS : tot cs - 1 - i = st at *
    have hpe := lends_ok h C room st hr (by omega)
    obtain ⟨z3, z4, q⟩ := lbest_in h C room st hr (x5 := none) F hF.len (by omega) (endsF bs cs room st) none y3 y4 fun e he => by
      obtain ⟨b1, b2, _⟩ := ends_bd he
      exact ⟨b1, b2⟩
    rw [fat_none_set (hF.none_ st (by omega)) (by rw [hF.len]; omega)] at q
    refine ⟨[some (layM C bs cs room), some (.lst (NF F)), some (.val (.int st)), y3, y4, none], _, by simp, .inl ?_, _, some (.val (.int st)), z3, z4, by rw [Nat.zero_add]; exact hn, rfl⟩
    simp only [NI] at hpe q
    simp [l_lbest_2, hpe, q])
  refine ⟨F, by rw [dns_len, Nat.zero_add] at hF; simpa using hF, ?_⟩
  have g2 : (tot cs : Int) ≤ 4000000000 := by omega
  have g3 : tot cs + 1 ≤ sizeLine := le_size (by omega)
  have g4 : tot cs ≤ 10000000 := by omega
  have g5 : 0 ≤ (tot cs : Int) := by omega
  have g6 : small62 ((tot cs : Int) - 1) := ⟨by omega, by omega⟩
  have g7 : small62 (-1) := ⟨by omega, by omega⟩
  have g8 : (tot cs : Int) - 1 - -1 = tot cs := by omega
  rw [← hNF] at e
  simp [r_lbest, b_lbest, g2, g3, g4, g6, g7, g8, hlc, e]
end Sy
namespace Sy
open PySem PySem.Spec PyProof.Rows L2
/-! ### what may raise: calls of defs, as statements -/
def okE (m : EM) : EM := fun sl => match m sl with
  | .ok o s => .ok o s
  | _ => .stuck
theorem okE_X {K : PySem.W.Frag} {Wx : WX} {m : EM} {σ : L2.St} {H : Hp} {Q : VK} (q : tE K (okE m) σ H Q) : tEX K Wx m σ H Q := by
  obtain ⟨O, W, sl, o, sl', x, e, q⟩ := tE_of q
  refine ⟨O, W, sl, x, ?_⟩
  unfold okE at e
  cases em : m sl with
  | ok o1 s1 =>
    rw [em] at e
    cases e
    exact q
  | exc _ _ => rw [em] at e; cases e
  | stuck => rw [em] at e; cases e
def S.asgX (i : Nat) (m : EM) : SM := fun sl => match m sl with
  | .exc x s => .exc x s
  | _ => S.asg i (okE m) sl
def S.retX (np : Nat) (m : EM) : SM := fun sl => match m sl with
  | .exc x s => .exc x s
  | _ => S.ret np (okE m) sl
def S.exprX (m : EM) : SM := fun sl => match m sl with
  | .exc x s => .exc x s
  | _ => S.expr (okE m) sl
section
variable {K : PySem.W.Frag} {Wx : WX} {σ : L2.St} {H : Hp} {D : Ends} {as : List Nat} {m : EM}
theorem excX {O : Addr → Prop} {W : Own} {sl s : Sl} {y : Exc} {Q : VK} (x : Sim K O W sl σ H) (e : m sl = .exc y s) (q : PostS K Wx O W H σ as D (.exc y s)) : tEX K Wx m σ H Q := by
  refine ⟨O, W, sl, x, ?_⟩
  rw [e]
  exact fun W' H' cls d t' x' rx => q W' σ H' cls d t' x' Agr.refl rx
theorem asgX_imp {i : Nat} (ha : i ∈ as) (q : tS K Wx (S.asgX i m) as D σ H) : tAsg (tEX K Wx m) (gName i) D σ H := by
  obtain ⟨O, W, sl, x, q⟩ := q
  unfold S.asgX at q
  cases e : m sl with
  | exc y s => rw [e] at q; exact excX x e q
  | ok o s => rw [e] at q; exact okE_X (asg_imp ha ⟨O, W, sl, x, q⟩)
  | stuck => rw [e] at q; exact okE_X (asg_imp ha ⟨O, W, sl, x, q⟩)
theorem exprX_imp (q : tS K Wx (S.exprX m) as D σ H) : tEX K Wx m σ H fun _ H1 => D.nx σ H1 := by
  obtain ⟨O, W, sl, x, q⟩ := q
  unfold S.exprX at q
  cases e : m sl with
  | exc y s => rw [e] at q; exact excX x e q
  | ok o s =>
    rw [e] at q
    refine okE_X ?_
    obtain ⟨o1, s1, e1, q1⟩ := post_ok q
    exact tE_mk x e1 fun W1 f1 v1 H1 t1 x1 r1 n1 => q1 W1 σ H1 t1.noL (x1.less fun a h => .inl h) Agr.refl
  | stuck =>
    rw [e] at q
    obtain ⟨o1, s1, e1, q1⟩ := post_ok q
    unfold okE at e1
    rw [e] at e1
    cases e1
end
section
variable {X : Cx} {as : List Nat} {pos pos' p apos : Pos} {e o : Expr} {es : List Expr} {ma mo : EM} {ms : AM} {n k : Nat} {g : FM} {C f : Addr} {x m : Str} {fd : FuncData} {ps : List Str}
theorem ss_asgX {i : Nat} (hN : X.N.Nodup) (he : SEX X e ma) (hi : X.N[i]? = some x := by rfl) (hx : Loc X.env.scope x := by first | exact .inl rfl | exact .inr rfl) (hs : swapsWith e (some (.Name x pos')) pos.line X.env = pure false := by rfl)
    (hf : X.fn x = true ∨ X.env.scope.names.lookup x = some .local := by first | exact .inl rfl | exact .inr rfl) (ha : i ∈ as := by decide) : SS X (.Assign [.Name x pos'] e pos) (S.asgX i ma) as := fun Wx tk => (ps_set hN hi hx (he Wx tk) hs hf).imp fun D σ H q => asgX_imp ha q
theorem ss_exprX (he : SEX X e ma) (hs : swapsWith e none pos.line X.env = pure false := by rfl) : SS X (.Expr e pos) (S.exprX ma) as := fun Wx tk => (ps_expr (he Wx tk) hs).imp fun D σ H q => exprX_imp q
theorem ss_retX (np : Nat) (he : SEX X e ma) : SS X (.Return (some e) pos) (S.retX np ma) as := fun Wx tk => (ps_ret (he Wx tk)).imp fun D σ H q => by
  obtain ⟨O, W, sl, x, q⟩ := q
  unfold S.retX at q
  have fin : ∀ (q : PostS X.K Wx O W H σ as D (S.ret np (okE ma) sl)), tE X.K (okE ma) σ H fun v H1 => D.rt v H1 := by
    intro q
    obtain ⟨o, s1, e1, q⟩ := post_ok q
    refine tE_mk x e1 fun W1 f1 v1 H1 t1 x1 r1 n1 => ?_
    cases o with
    | tmp m =>
      cases r1 with
      | tmp r1 => exact q W1 f1 v1 σ H1 t1 x1 r1 n1 Agr.refl
    | pl i =>
      simp only at q
      by_cases hi : i < np
      · rw [if_pos hi] at q
        cases es : settle1 (.pl i) s1 with
        | none => rw [es] at q; exact q.elim
        | some p =>
          obtain ⟨d, s2⟩ := p
          rw [es] at q
          obtain ⟨W2, x2, rd, sh⟩ := settle1_ok x1 r1 n1 es
          have hG : Same (gr O W2 H1) (gr (plus O []) W2 H1) := hid_less fun a h => h.elim (fun h => h.elim .inl fun h => by simp at h) .inr
          exact q W2 [] v1 σ H1 ((tr_shr t1 sh).less fun a h => by simp at h) (x2.less fun a h => h.elim id fun h => by simp at h) (.val (rd.up hG)) (fun a h => by simp at h) Agr.refl
      · rw [if_neg hi] at q
        cases h : s1[i]? with
        | none => rw [h] at q; exact q.elim
        | some y =>
          cases y with
          | none => rw [h] at q; exact q.elim
          | some m =>
            rw [h] at q
            have x1' : Sim X.K O W1 s1 σ H1 := x1.less fun a h => .inl h
            cases r1 with
            | pl ev =>
              obtain ⟨y1, y2, y3⟩ := x1'.take h ev
              exact q _ _ v1 σ H1 ⟨t1.keep, fun j a h => t1.new j a (shr_set j a h), fun a h => t1.new i a h⟩ y1 y2 y3 Agr.refl
  cases e : ma sl with
  | exc y s => rw [e] at q; exact excX x e q
  | ok o s => rw [e] at q; exact okE_X (fin q)
  | stuck => rw [e] at q; exact okE_X (fin q)
theorem se_callX (F : FnOk X.prog X.w X.K X.mg X.base (L2.CX X.prog X.w) k f fd ps (spX X.K n g)) (hr : Room k X.A) (hm : X.mg x = some (.ref f)) (hk : PySem.W.keepIn X.K (.ref f) = true) (hb : Binds X.K fd ps []) (ha : SA X (e :: es) ms)
    (hg : Gl X x := by rfl) (h0 : (x == ("__debug__" : Str)) = false := by decide) (h1 : starEach (e :: es) X.env = (false, eval e X.env) :: starEach es X.env := by rfl) (h2 : (backTo pos (starEach es X.env)).any (·.1) = false := by rfl) :
    SEX X (.Call (.Name x p) (e :: es) [] pos) (E.callX n g ms) := fun Wx tk => (pe_callS (E := WE Wx) F hr hg hm hk hb (fun σ => passAt tk σ) ha h0 h1 h2).imp fun σ H Q q => callX_imp q
/-! methods that may raise -/
abbrev E.methX (C : Addr) (m : Str) (n : Nat) (g : FM) (o : EM) (as : AM) : EM := E.callX n g (A.cons (E.chk C m o) as)
theorem methX_imp {K : PySem.W.Frag} {Wx : WX} {σ : L2.St} {H : Hp} {Q : VK} (q : tEX K Wx (E.methX C m n g mo ms) σ H Q) : tE K mo σ H fun u H1 => (∃ a dx fs, u = V.ref a ∧ H1 a = some (.ins C dx fs) ∧ fs.lookup m = none) ∧ tAs K ms σ H1 fun vs H2 => spX K n g (u :: vs) H2 Q (WE Wx σ) := chk_imp (cons_imp (callX_imp q))
theorem se_methX0 {pl : Sem Bool} (c : Cls X.K C) (hm : Meth X.K C m f) (F : FnOk X.prog X.w X.K X.mg X.base (L2.CX X.prog X.w) k f fd ps (spX X.K n g)) (hr : Room k X.A) (hb : Binds X.K fd ps []) (ho : SE X o mo)
    (ht : eval (.Call (.Attribute o m apos) [] [] pos) X.env = (do { let u ← eval o X.env; standAt apos.atName; let (c, u1) ← holding [u] (getMethod u m pl); callWith pos c u1 (backTo pos (starEach [] X.env)) (backToKw pos (keywordEach [] X.env)) }) := by rfl) :
    SEX X (.Call (.Attribute o m apos) [] [] pos) (E.methX C m n g mo A.nil) := fun Wx tk => by
  refine ⟨fun pins s σ H Q I h => ?_⟩
  have h' := methX_imp h
  refine PySem.W.methodCall_KW (pl := pl) (thn (ho.run pins s σ H _ I h') fun u s1 hu => ?_) ht
  obtain ⟨z, H1, I1, rz, ⟨a, dx, fs, ez, ea, l⟩, q⟩ := hu
  subst ez
  obtain rfl : u = Value.ref a := rz
  have q' : spX X.K n g [V.ref a] H1 Q (WE Wx σ) := asNil q
  refine getmeth_ok I1 ea c hm l ?_
  exact PySem.W.callWith_K0 (first := [.ref a]) I1.kIn hm.kp (run_fnS (us := [.ref a]) (vs := [.ref a]) (E := WE Wx) F hr hb (passAt tk σ) I1 (.cons rfl .nil) q')
theorem se_methX {pl : Sem Bool} (c : Cls X.K C) (hm : Meth X.K C m f) (F : FnOk X.prog X.w X.K X.mg X.base (L2.CX X.prog X.w) k f fd ps (spX X.K n g)) (hr : Room k X.A) (hb : Binds X.K fd ps []) (ho : SE X o mo) (ha : SA X (e :: es) ms)
    (s1 : starEach (e :: es) X.env = (false, eval e X.env) :: starEach es X.env := by rfl) (s2 : (backTo pos (starEach es X.env)).any (·.1) = false := by rfl)
    (ht : eval (.Call (.Attribute o m apos) (e :: es) [] pos) X.env = (do { let u ← eval o X.env; standAt apos.atName; let (c, u1) ← holding [u] (getMethod u m pl); callWith pos c u1 (backTo pos (starEach (e :: es) X.env)) (backToKw pos (keywordEach [] X.env)) }) := by rfl) :
    SEX X (.Call (.Attribute o m apos) (e :: es) [] pos) (E.methX C m n g mo ms) := fun Wx tk => by
  refine ⟨fun pins s σ H Q I h => ?_⟩
  have h' := methX_imp h
  refine PySem.W.methodCall_KW (pl := pl) (thn (ho.run pins s σ H _ I h') fun u z1 hu => ?_) ht
  obtain ⟨z, H1, I1, rz, ⟨a, dx, fs, ez, ea, l⟩, q⟩ := hu
  subst ez
  obtain rfl : u = Value.ref a := rz
  refine getmeth_ok I1 ea c hm l ?_
  refine PySem.W.callWith_K (first := [.ref a]) (h₀ := X.base) I1.ok.mod.kin hm.kp (thn (ha.run pos pins z1 σ H1 _ I1 q) fun us z2 hu => ?_) s1 s2
  obtain ⟨vs, H2, I2, r, q2⟩ := hu
  exact ⟨I2.kIn, run_fnS (us := .ref a :: us) (vs := .ref a :: vs) (E := WE Wx) F hr hb (passAt tk σ) I2 (.cons rfl r) q2⟩
end
/-! ### raise C(..) -/
def S.raise (C : Addr) (ns : List Str) (ms : AM) : SM := fun sl => match ms sl with
  | .ok os sl => (match settle os sl with
    | some (ds, sl) => if ds.length = ns.length ∧ ds.length ≤ 900 then .exc ⟨C, ns.reverse, ds.reverse⟩ sl else .stuck
    | none => .stuck)
  | _ => .stuck
/-- what such a class's __init__ does -/
def spI (C : Addr) (ns : List Str) : Sp := fun vs H Q _ => ∃ (a : Addr) (ws : List V), vs = .ref a :: ws ∧ ws.length = ns.length ∧ H a = some (exo a C none) ∧
  ∀ (dx : Addr) (H' : Hp), H dx = none → dx ≠ a → H' a = some (exo a C (some dx)) → H' dx = some (exd dx (ns.zip ws).reverse) → (∀ b, b ≠ a → b ≠ dx → H' b = H b) → Q .non H'
theorem zip_rev {α β : Type} : ∀ {l : List α} {m : List β}, l.length = m.length → (l.zip m).reverse = l.reverse.zip m.reverse
  | [], [], _ => rfl
  | a :: l, b :: m, h => by
    have hl : l.length = m.length := by simpa using h
    rw [List.zip_cons_cons, List.reverse_cons, List.reverse_cons, List.reverse_cons, zip_rev hl, List.zip_append (by simpa using hl)]
    rfl
theorem raise_imp {K : PySem.W.Frag} {Wx : WX} {C : Addr} {ns : List Str} {ms : AM} {σ : L2.St} {H : Hp} {D : Ends} {as : List Nat} (q : tS K Wx (S.raise C ns ms) as D σ H) : tMkO C (spI C ns) [] (tAs K ms) σ H fun cls d H' => Wx cls d σ H' := by
  obtain ⟨O, W, sl, x, q⟩ := q
  unfold S.raise at q
  cases e : ms sl with
  | exc _ _ => rw [e] at q; exact q.elim
  | stuck => rw [e] at q; exact q.elim
  | ok os s1 =>
    rw [e] at q
    simp only at q
    cases es : settle os s1 with
    | none => rw [es] at q; exact q.elim
    | some pr =>
      obtain ⟨ds, s2⟩ := pr
      rw [es] at q
      simp only at q
      by_cases hc : ds.length = ns.length ∧ ds.length ≤ 900
      · rw [if_pos hc] at q
        refine tAs_mk x e fun W1 F vs H1 t1 x1 r1 n1 => ?_
        obtain ⟨W2, x2, rd, sh⟩ := settle_ok os s1 s2 ds W1 F vs es x1 r1 n1
        have hl := RDs.length rd
        refine ⟨by omega, fun a ha => ?_⟩
        rw [List.append_nil]
        refine ⟨a, vs, rfl, by omega, upd_same, fun dx H' hdx hne e1 e2 keep => ⟨rfl, dx, (ns.zip vs).reverse, e1, e2, ?_, ?_⟩⟩
        · rw [upd_ne hne] at hdx; exact hdx
        · have hd1 : H1 dx = none := by rw [upd_ne hne] at hdx; exact hdx
          have sm : Same H1 (upd (del H' a) dx (.xd (ns.zip vs).reverse)) := fun b ob eb => by
            have b1 : b ≠ dx := ne_of_none eb hd1
            have b2 : b ≠ a := ne_of_none eb ha
            rw [upd_ne b1, del_ne b2, keep b b2 b1, upd_ne b2]
            exact eb
          have x3 : Sim K O W2 s2 σ (upd (del H' a) dx (.xd (ns.zip vs).reverse)) := x2.grow sm (fun b h => .inl h) fun b h => by
            obtain ⟨ob, eb⟩ := x2.al b h
            exact ⟨ob, sm b ob eb⟩
          refine q W2 σ _ (.ref C) (some dx) ((tr_shr t1.noF sh).trans (Tr.ofSame sm fun _ h => h.elim)) x3 Agr.refl ⟨rfl, .inr ⟨dx, vs.reverse, rfl, hid_some.mpr ⟨fun z => ?_, ?_⟩, by simp; omega, ?_⟩⟩
          · obtain ⟨ob, eb⟩ := x2.ownAlive z
            rw [hd1] at eb; cases eb
          · rw [upd_same, zip_rev (by omega)]
          · exact (rd.up (gr_same sm fun b h => .inl h)).reverse
      · rw [if_neg hc] at q; exact q.elim
theorem ss_raise {X : Cx} {as : List Nat} {e : Expr} {es : List Expr} {ms : AM} {C fI : Addr} {ns : List Str} {x : Str} {p pos pos' : Pos} {k : Nat} {fd : FuncData} {ps : List Str} (hc : X.calm = true) (T : OexC X.K C) (iC : PySem.W.findIn X.K (.ref C) "__init__" = some (some (.ref fI)))
    (tI : PySem.W.typeIn X.K (.ref fI) = some (.type "function")) (F : FnOk X.prog X.w X.K X.mg X.base CX0 k fI fd ps (spI C ns)) (hr : Room (k + 1) X.A) (hb : Binds X.K fd ps []) (hm : X.mg x = some (.ref C)) (ha : SA X (e :: es) ms) (hg : Gl X x := by rfl)
    (h0 : (x == ("__debug__" : Str)) = false := by decide) (h1 : starEach (e :: es) X.env = (false, eval e X.env) :: starEach es X.env := by rfl) (h2 : (backTo pos (starEach es X.env)).any (·.1) = false := by rfl) :
    SS X (.Raise (some (.Call (.Name x p) (e :: es) [] pos)) none pos') (S.raise C ns ms) as := fun Wx tk => (ps_raise hc tk (pmk_oex T iC tI F hr hb .nil pass0 hg hm ha h0 h1 h2)).imp fun D σ H q => raise_imp q
end Sy
namespace Sy
open PySem PySem.Spec PyProof.Rows L2
/-! ### the __init__ of an exception class -/
section
variable {K : PySem.W.Frag} {C : Addr} {f1 f2 f3 x0 x1 x2 x3 : Str} {vs : List V} {H : Hp} {Q : VK} {E : XK} {ns : List Str}
theorem spI_len (h : spI C ns vs H Q E) : vs.length = ns.length + 1 := by
  obtain ⟨a, ws, rfl, l, _⟩ := h
  simp [l]
theorem spI_1 (T : OexC K C) (n1 : PySem.W.findIn K (.ref C) f1 = some none) (h : spI C [f1] vs H Q E) : tOst K f1 (tVar 0) (tVar 1) { nx := fun _ H' => Q .non H', rt := Q } (L2.start [x0, x1] vs) H := by
  obtain ⟨a, ws, rfl, l, ha, k⟩ := h
  match ws, l with
  | [w1], _ =>
    refine ⟨w1, rfl, .ref a, rfl, a, C, rfl, T, n1, .inl ⟨ha, fun dx h1 h2 => k dx _ h1 h2 upd_same ?_ fun b b1 b2 => ?_⟩⟩
    · rw [upd_ne h2, upd_same]; rfl
    · rw [upd_ne b1, upd_ne b2]
theorem spI_2 (T : OexC K C) (n1 : PySem.W.findIn K (.ref C) f1 = some none) (n2 : PySem.W.findIn K (.ref C) f2 = some none) (h : spI C [f1, f2] vs H Q E) : tSeq (tOst K f1 (tVar 0) (tVar 1)) (tOst K f2 (tVar 0) (tVar 2)) { nx := fun _ H' => Q .non H', rt := Q } (L2.start [x0, x1, x2] vs) H := by
  obtain ⟨a, ws, rfl, l, ha, k⟩ := h
  match ws, l with
  | [w1, w2], _ =>
    refine ⟨w1, rfl, .ref a, rfl, a, C, rfl, T, n1, .inl ⟨ha, fun dx h1 h2 => ?_⟩⟩
    have h3 : a ≠ dx := fun z => h2 z.symm
    refine ⟨w2, rfl, .ref a, rfl, a, C, rfl, T, n2, .inr ⟨dx, [(f1, w1)], upd_same, by rw [upd_ne h2, upd_same], by simp, k dx _ h1 h2 (by rw [upd_ne h3, upd_same]) ?_ fun b b1 b2 => ?_⟩⟩
    · rw [upd_same]; rfl
    · rw [upd_ne b2, upd_ne b1, upd_ne b2]
theorem spI_3 (T : OexC K C) (n1 : PySem.W.findIn K (.ref C) f1 = some none) (n2 : PySem.W.findIn K (.ref C) f2 = some none) (n3 : PySem.W.findIn K (.ref C) f3 = some none) (h : spI C [f1, f2, f3] vs H Q E) :
    tSeq (tOst K f1 (tVar 0) (tVar 1)) (tSeq (tOst K f2 (tVar 0) (tVar 2)) (tOst K f3 (tVar 0) (tVar 3))) { nx := fun _ H' => Q .non H', rt := Q } (L2.start [x0, x1, x2, x3] vs) H := by
  obtain ⟨a, ws, rfl, l, ha, k⟩ := h
  match ws, l with
  | [w1, w2, w3], _ =>
    refine ⟨w1, rfl, .ref a, rfl, a, C, rfl, T, n1, .inl ⟨ha, fun dx h1 h2 => ?_⟩⟩
    have h3 : a ≠ dx := fun z => h2 z.symm
    refine ⟨w2, rfl, .ref a, rfl, a, C, rfl, T, n2, .inr ⟨dx, [(f1, w1)], upd_same, by rw [upd_ne h2, upd_same], by simp, ?_⟩⟩
    refine ⟨w3, rfl, .ref a, rfl, a, C, rfl, T, n3, .inr ⟨dx, [(f2, w2), (f1, w1)], by rw [upd_ne h3, upd_same], upd_same, by simp, k dx _ h1 h2 (by rw [upd_ne h3, upd_ne h3, upd_same]) ?_ fun b b1 b2 => ?_⟩⟩
    · rw [upd_same]; rfl
    · rw [upd_ne b2, upd_ne b2, upd_ne b1, upd_ne b2]
end
/-! ### try: .. except C as n: .. -/
open Classical in
noncomputable def pick (f : Addr → Addr → SRes) : SRes := if h : ∃ r, ∀ a d, f a d = r then Classical.choose h else .stuck
theorem pick_eq {f : Addr → Addr → SRes} {r : SRes} (h : ∀ a d, f a d = r) : pick f = r := by
  have ex : ∃ r, ∀ a d, f a d = r := ⟨r, h⟩
  unfold pick
  rw [dif_pos ex, ← Classical.choose_spec ex 0 0, h]
/-- behind the suite the name is gone -/
def fins (i : Nat) : SRes → SRes
  | .nx s => .nx (s.set i none)
  | .bk s => .bk (s.set i none)
  | .ct s => .ct (s.set i none)
  | .ret m s => .ret m (s.set i none)
  | _ => .stuck
noncomputable def S.tryAs (i : Nat) (C : Addr) (no : List Addr) (body : SM) (suite : Addr → Addr → SM) : SM := fun sl => match body sl with
  | .exc x s => if x.cls = C then (if x.ns ≠ [] ∧ i < s.length then pick (fun a d => fins i (suite a d (s.set i (some (.val (.xcp a d x.ns x.ds)))))) else .stuck) else if x.cls ∈ no then .exc x s else .stuck
  | r => r
theorem tr_pre {W1 W1' W2 : Own} {H1 H2 : Hp} {f : Addr → Prop} (t : Tr W1' H1 W2 f H2) (sh : ∀ i a, a ∈ W1' i → a ∈ W1 i) : Tr W1 H1 W2 f H2 :=
  ⟨fun a o h hn => t.keep a o h fun i hi => hn i (sh i a hi), fun i a h => (t.new i a h).imp (fun ⟨j, hj⟩ => ⟨j, sh j a hj⟩) id, fun a h => (t.newf a h).imp (fun ⟨j, hj⟩ => ⟨j, sh j a hj⟩) id⟩
theorem try_imp {K : PySem.W.Frag} {Wx : WX} {i : Nat} {C : Addr} {no : List Addr} {mb : SM} {ms : Addr → Addr → SM} {as : List Nat} {D : Ends} {σ : L2.St} {H : Hp} (hyes : PySem.W.exmOne K (.ref C) (.ref C) = some true) (hno : ∀ A ∈ no, PySem.W.exmOne K (.ref A) (.ref C) = some false) (ha : i ∈ as)
    (q : tS K Wx (S.tryAs i C no mb ms) as D σ H) : tS K (wAs K (.ref C) i (fun a cls d D σ H => ∃ dd, d = some dd ∧ cls = .ref C ∧ tS K (fun _ _ _ _ => False) (ms a dd) as D σ H) Wx D) mb as D σ H := by
  obtain ⟨O, W, sl, x, q⟩ := q
  refine ⟨O, W, sl, x, ?_⟩
  unfold S.tryAs at q
  cases e : mb sl with
  | nx s => rw [e] at q; exact q
  | bk s => rw [e] at q; exact q
  | ct s => rw [e] at q; exact q
  | ret m s => rw [e] at q; exact q
  | stuck => rw [e] at q; exact q.elim
  | exc y s =>
    rw [e] at q
    simp only at q
    intro W' σ' H' cls d t' x' a' rx
    by_cases hc : y.cls = C
    · rw [if_pos hc] at q
      by_cases hn : y.ns ≠ [] ∧ i < s.length
      · rw [if_pos hn] at q
        by_cases ex : ∃ r, ∀ a d, fins i (ms a d (s.set i (some (.val (.xcp a d y.ns y.ds))))) = r
        · obtain ⟨r, hr⟩ := ex
          rw [pick_eq hr] at q
          obtain ⟨e1, e2 | ⟨dd, vs, e2, e3, e4, e5⟩⟩ := rx
          · exact absurd e2.1 hn.1
          · refine ⟨true, by rw [e1, hc]; exact hyes, fun _ a na => ⟨dd, e2, by rw [e1, hc], O, setW W' i [], s.set i (some (.val (.xcp a dd y.ns y.ds))), x'.setv (.xcp e3 e4 e5) hn.2, ?_⟩, fun z => nomatch z⟩
            have hq := hr a dd
            have pre : ∀ {W3 : Own} {f : Addr → Prop} {H3 : Hp}, Tr (setW W' i []) H' W3 f H3 → Tr W H W3 f H3 := fun t3 => t'.trans (tr_pre t3 shr_set)
            have agr : ∀ {σ3 : L2.St}, Agr as (σ'.set i (some (.ref a))) σ3 → Agr as σ (σ3.set i none) := fun a3 => (a'.trans ((Agr.set ha).trans a3)).trans (Agr.set ha)
            cases em : ms a dd (s.set i (some (.val (.xcp a dd y.ns y.ds)))) with
            | nx s2 =>
              rw [em] at hq
              rw [← hq] at q
              intro W3 σ3 H3 t3 x3 a3
              obtain ⟨W4, x4, sh4⟩ := x3.wipe [i]
              exact q W4 _ H3 (tr_shr (pre t3) sh4) x4 (agr a3)
            | bk s2 =>
              rw [em] at hq
              rw [← hq] at q
              intro W3 σ3 H3 t3 x3 a3
              obtain ⟨W4, x4, sh4⟩ := x3.wipe [i]
              exact q W4 _ H3 (tr_shr (pre t3) sh4) x4 (agr a3)
            | ct s2 =>
              rw [em] at hq
              rw [← hq] at q
              intro W3 σ3 H3 t3 x3 a3
              obtain ⟨W4, x4, sh4⟩ := x3.wipe [i]
              exact q W4 _ H3 (tr_shr (pre t3) sh4) x4 (agr a3)
            | ret m s2 =>
              rw [em] at hq
              rw [← hq] at q
              intro W3 f v σ3 H3 t3 x3 r3 n3 a3
              obtain ⟨W4, x4, sh4⟩ := x3.wipe [i]
              exact q W4 f v _ H3 (tr_shr (pre t3) sh4) x4 (r3.mono (gs_same sh4) fun _ _ _ h => h) n3 (agr a3)
            | exc z s2 =>
              rw [em] at hq
              rw [← hq] at q
              exact q.elim
            | stuck =>
              rw [em] at hq
              rw [← hq] at q
              exact q.elim
        · unfold pick at q
          rw [dif_neg ex] at q
          exact q.elim
      · rw [if_neg hn] at q; exact q.elim
    · rw [if_neg hc] at q
      by_cases hm : y.cls ∈ no
      · rw [if_pos hm] at q
        obtain ⟨e1, _⟩ := id rx
        exact ⟨false, by rw [e1]; exact hno _ hm, (fun z => nomatch z), fun _ => q W' σ' H' cls d t' x' a' rx⟩
      · rw [if_neg hm] at q; exact q.elim
section
variable {X : Cx} {as : List Nat} {x n : Str} {C : Addr} {i : Nat} {body suite : List Stmt} {b0 : Stmt} {np pos pos' : Pos} {no : List Addr} {mb : SM} {ms : Addr → Addr → SM}
theorem ss_tryAs (hs : X.stack = X.env :: X.outer) (hf : X.env.frame = some X.env.locals) (hN : X.N.Nodup) (hc : Names X x (.ref C)) (hyes : PySem.W.exmOne X.K (.ref C) (.ref C) = some true) (hno : ∀ A ∈ no, PySem.W.exmOne X.K (.ref A) (.ref C) = some false)
    (hbody : ∀ (pn : List (Addr × Obj)) (xe : Value → Shared → Prop), PassesOwn (model X.prog X.w) X.A X.env xe → SSs (X.tr pn xe) body mb as)
    (hsuite : ∀ (a : Addr) (oe : Obj) (dd : Addr) (pn : List (Addr × Obj)), Zc (.ref C) (some dd) oe → (∃ vs, oe.data = .fields vs) → SSs (X.suite a ((a, oe) :: pn)) (b0 :: suite) (ms a dd) as)
    (hi : X.N[i]? = some n := by rfl) (hln : X.env.kindOf n = some .local := by rfl) (ha : i ∈ as := by decide) : SS X (.Try body [.ExceptHandler (some (.Name x np)) (some n) (b0 :: suite) pos'] [] [] pos) (S.tryAs i C no mb ms) as := fun Wx tk =>
  (ps_try_as (tb := fun W => tS X.K W mb as) (ts := fun a cls d D σ H => ∃ dd, d = some dd ∧ cls = .ref C ∧ tS X.K (fun _ _ _ _ => False) (ms a dd) as D σ H) hs hf hN hi hln hc tk (fun W pn xe t po => hbody pn xe po W t) (fun a oe cls d pn hz hf' => by
    by_cases hd : ∃ dd, d = some dd ∧ cls = .ref C
    · obtain ⟨dd, rfl, rfl⟩ := hd
      exact (hsuite a oe dd pn hz hf' _ takes0).imp fun D σ H q => by
        obtain ⟨dd', e, _, q⟩ := q
        cases e
        exact q
    · exact ⟨fun pins s σ H D I q => by
        obtain ⟨dd, e1, e2, _⟩ := q
        exact absurd ⟨dd, e1, e2⟩ hd⟩)).imp fun D σ H q => try_imp hyes hno ha q
/-- n.f, n the caught exception -/
def E.exf (a d : Addr) (f : Str) (i : Nat) : EM := fun sl => match sl[i]? with
  | some (some (.val (.xcp a' d' ns ds))) => if a' = a ∧ d' = d then (match fget f ns ds with
    | some v => .ok (.tmp (.val v)) sl
    | none => .stuck) else .stuck
  | _ => .stuck
theorem se_exf {a dd : Addr} {oe : Obj} {pn : List (Addr × Obj)} {f : Str} {p : Pos} (i : Nat) (T : XfC X.K C) (hno : PySem.W.findIn X.K (.ref C) f = some none) (hz : Zc (.ref C) (some dd) oe) (hf : ∃ vs, oe.data = .fields vs) (hi : X.N[i]? = some n := by rfl) (hv : Vis X.env.scope n := by first | exact Or.inl rfl | exact Or.inr (Or.inl rfl) | exact Or.inr (Or.inr rfl))
    (hd : (n == ("__debug__" : Str)) = false := by decide) (hcd : (n == ("__classdict__" : Str)) = false := by decide) (hb : attributeBase (.Name n p) f X.env (eval (.Name n p) X.env) = eval (.Name n p) X.env := by rfl) : SE (X.suite a ((a, oe) :: pn)) (.Attribute (.Name n p) f pos) (E.exf a dd f i) :=
  (pe_xf T hno hz hf (pv (X := X.suite a ((a, oe) :: pn)) i hi hv hd hcd) hb).imp fun σ H Q q => by
    obtain ⟨O, W, sl, o, sl', x, e, q⟩ := tE_of q
    unfold E.exf at e
    cases h : sl[i]? with
    | none => rw [h] at e; cases e
    | some y =>
      cases y with
      | none => rw [h] at e; cases e
      | some m =>
        cases m with
        | lst _ => rw [h] at e; cases e
        | obj _ _ _ => rw [h] at e; cases e
        | dct _ _ => rw [h] at e; cases e
        | bo _ _ _ _ _ _ => rw [h] at e; cases e
        | val dv =>
          cases dv with
          | xcp a' d' ns ds =>
            rw [h] at e
            simp only at e
            by_cases hc : a' = a ∧ d' = dd
            · rw [if_pos hc] at e
              obtain ⟨rfl, rfl⟩ := hc
              cases hg : fget f ns ds with
              | none => rw [hg] at e; cases e
              | some v =>
                rw [hg] at e
                cases e
                obtain ⟨u, ev, r⟩ := x.get h
                have rd := r.rdv
                cases rd with
                | xcp h1 h2 h3 =>
                  obtain ⟨w, ew, rw'⟩ := fget_rd h3 hg
                  refine ⟨_, ev, rfl, rfl, _, _, w, rfl, (hid_some.mp h1).2, by rw [fget_lookup, ew], ?_⟩
                  exact q W [] w H ⟨fun _ _ h _ => h, fun i a h => .inl ⟨i, h⟩, fun a h => by simp at h⟩ (x.less fun a h => h.elim id fun h => by simp at h) (.tmp (.val (rw'.up (hid_less fun b h => h.elim (fun h => h.elim .inl fun h => by simp at h) .inr)))) (fun a h => by simp at h)
            · rw [if_neg hc] at e; cases e
          | _ => rw [h] at e; cases e
end
end Sy
namespace Sy
open PySem PySem.Spec PyProof.Rows L2
/-! ### running by simp: what may raise -/
def backX (n : Nat) (os : List Op) (sl : Sl) : FRes → Res Op
  | .ok r ms' => if ms'.length = n then .ok (.tmp r) (giveb sl os ms' sl) else .stuck
  | .exc x ms' => if ms'.length = n then .exc x (giveb sl os ms' sl) else .stuck
  | .stuck => .stuck
@[simp] theorem backX_ok {n : Nat} {os : List Op} {sl : Sl} {r : MV} {ms : List MV} : backX n os sl (.ok r ms) = if ms.length = n then .ok (.tmp r) (giveb sl os ms sl) else .stuck := rfl
@[simp] theorem backX_exc {n : Nat} {os : List Op} {sl : Sl} {x : Exc} {ms : List MV} : backX n os sl (.exc x ms) = if ms.length = n then .exc x (giveb sl os ms sl) else .stuck := rfl
def callXO (n : Nat) (g : FM) (os : List Op) (sl : Sl) : Option (List MV) → Res Op
  | some ms => if os.length = n ∧ (ownSl sl os).Nodup then backX n os sl (g ms) else .stuck
  | none => .stuck
@[simp] theorem callXO_s {n : Nat} {g : FM} {os : List Op} {sl : Sl} {ms : List MV} : callXO n g os sl (some ms) = if os.length = n ∧ (ownSl sl os).Nodup then backX n os sl (g ms) else .stuck := rfl
def Res.callX (r : Res (List Op)) (n : Nat) (g : FM) : Res Op := match r with
  | .ok os sl => callXO n g os sl (conts sl os)
  | _ => .stuck
@[simp] theorem Res.callX_ok {os : List Op} {sl : Sl} {n : Nat} {g : FM} : (Res.ok os sl).callX n g = callXO n g os sl (conts sl os) := rfl
@[simp] theorem E.callX_eq {n : Nat} {g : FM} {as : AM} {sl : Sl} : E.callX n g as sl = (as sl).callX n g := by
  unfold E.callX Res.callX callXO backX
  all_goals rfl
def Res.asgX (r : Res Op) (i : Nat) : SRes := match r with
  | .ok o sl => asgO i o sl
  | .exc x sl => .exc x sl
  | .stuck => .stuck
@[simp] theorem Res.asgX_ok {o : Op} {sl : Sl} {i : Nat} : (Res.ok o sl).asgX i = asgO i o sl := rfl
@[simp] theorem Res.asgX_exc {x : Exc} {sl : Sl} {i : Nat} : (Res.exc x sl : Res Op).asgX i = .exc x sl := rfl
@[simp] theorem S.asgX_eq {i : Nat} {m : EM} {sl : Sl} : S.asgX i m sl = (m sl).asgX i := by
  unfold S.asgX
  cases e : m sl with
  | ok o s =>
    have h : okE m sl = .ok o s := by unfold okE; rw [e]
    simp only [S.asg_eq, h]
    rfl
  | exc x s => rfl
  | stuck =>
    have h : okE m sl = .stuck := by unfold okE; rw [e]
    simp only [S.asg_eq, h]
    rfl
def Res.retX (r : Res Op) (np : Nat) : SRes := match r with
  | .ok o sl => retO np o sl
  | .exc x sl => .exc x sl
  | .stuck => .stuck
@[simp] theorem Res.retX_ok {o : Op} {sl : Sl} {i : Nat} : (Res.ok o sl).retX i = retO i o sl := rfl
@[simp] theorem Res.retX_exc {x : Exc} {sl : Sl} {i : Nat} : (Res.exc x sl : Res Op).retX i = .exc x sl := rfl
@[simp] theorem S.retX_eq {np : Nat} {m : EM} {sl : Sl} : S.retX np m sl = (m sl).retX np := by
  unfold S.retX
  cases e : m sl with
  | ok o s =>
    have h : okE m sl = .ok o s := by unfold okE; rw [e]
    simp only [S.ret_eq, h]
    rfl
  | exc x s => rfl
  | stuck =>
    have h : okE m sl = .stuck := by unfold okE; rw [e]
    simp only [S.ret_eq, h]
    rfl
def Res.sexX (r : Res Op) : SRes := match r with
  | .ok _ sl => .nx sl
  | .exc x sl => .exc x sl
  | .stuck => .stuck
@[simp] theorem Res.sexX_ok {o : Op} {sl : Sl} : (Res.ok o sl).sexX = .nx sl := rfl
@[simp] theorem Res.sexX_exc {x : Exc} {sl : Sl} : (Res.exc x sl : Res Op).sexX = .exc x sl := rfl
@[simp] theorem S.exprX_eq {m : EM} {sl : Sl} : S.exprX m sl = (m sl).sexX := by
  unfold S.exprX
  cases e : m sl with
  | ok o s =>
    have h : okE m sl = .ok o s := by unfold okE; rw [e]
    simp only [S.expr_eq, h]
    rfl
  | exc x s => rfl
  | stuck =>
    have h : okE m sl = .stuck := by unfold okE; rw [e]
    simp only [S.expr_eq, h]
    rfl
def raiseO (C : Addr) (ns : List Str) : Option (List DV × Sl) → SRes
  | some (ds, sl) => if ds.length = ns.length ∧ ds.length ≤ 900 then .exc ⟨C, ns.reverse, ds.reverse⟩ sl else .stuck
  | none => .stuck
@[simp] theorem raiseO_s {C : Addr} {ns : List Str} {ds : List DV} {sl : Sl} : raiseO C ns (some (ds, sl)) = if ds.length = ns.length ∧ ds.length ≤ 900 then .exc ⟨C, ns.reverse, ds.reverse⟩ sl else .stuck := rfl
def Res.raise (r : Res (List Op)) (C : Addr) (ns : List Str) : SRes := match r with
  | .ok os sl => raiseO C ns (settle os sl)
  | _ => .stuck
@[simp] theorem Res.raise_ok {os : List Op} {sl : Sl} {C : Addr} {ns : List Str} : (Res.ok os sl).raise C ns = raiseO C ns (settle os sl) := rfl
@[simp] theorem S.raise_eq {C : Addr} {ns : List Str} {ms : AM} {sl : Sl} : S.raise C ns ms sl = (ms sl).raise C ns := by
  unfold S.raise Res.raise raiseO
  all_goals rfl
noncomputable def tryO (i : Nat) (C : Addr) (no : List Addr) (suite : Addr → Addr → SM) : SRes → SRes
  | .exc x s => if x.cls = C then (if x.ns ≠ [] ∧ i < s.length then pick (fun a d => fins i (suite a d (s.set i (some (.val (.xcp a d x.ns x.ds)))))) else .stuck) else if x.cls ∈ no then .exc x s else .stuck
  | r => r
@[simp] theorem tryO_nx {i : Nat} {C : Addr} {no : List Addr} {suite : Addr → Addr → SM} {s : Sl} : tryO i C no suite (.nx s) = .nx s := rfl
@[simp] theorem tryO_ret {i : Nat} {C : Addr} {no : List Addr} {suite : Addr → Addr → SM} {m : MV} {s : Sl} : tryO i C no suite (.ret m s) = .ret m s := rfl
@[simp] theorem tryO_bk {i : Nat} {C : Addr} {no : List Addr} {suite : Addr → Addr → SM} {s : Sl} : tryO i C no suite (.bk s) = .bk s := rfl
@[simp] theorem tryO_ct {i : Nat} {C : Addr} {no : List Addr} {suite : Addr → Addr → SM} {s : Sl} : tryO i C no suite (.ct s) = .ct s := rfl
@[simp] theorem tryO_exc {i : Nat} {C : Addr} {no : List Addr} {suite : Addr → Addr → SM} {ns : List Str} {ds : List DV} {s : Sl} : tryO i C no suite (.exc ⟨C, ns, ds⟩ s) = if ns ≠ [] ∧ i < s.length then pick (fun a d => fins i (suite a d (s.set i (some (.val (.xcp a d ns ds)))))) else .stuck := by
  unfold tryO
  simp
@[simp] theorem S.tryAs_eq {i : Nat} {C : Addr} {no : List Addr} {body : SM} {suite : Addr → Addr → SM} {sl : Sl} : S.tryAs i C no body suite sl = tryO i C no suite (body sl) := by
  unfold S.tryAs tryO
  all_goals rfl
@[simp] theorem pick_const {r : SRes} : pick (fun _ _ => r) = r := pick_eq fun _ _ => rfl
@[simp] theorem fins_nx {i : Nat} {s : Sl} : fins i (.nx s) = .nx (s.set i none) := rfl
@[simp] theorem fins_ret {i : Nat} {m : MV} {s : Sl} : fins i (.ret m s) = .ret m (s.set i none) := rfl
def exfO (sl : Sl) : Option DV → Res Op
  | some v => .ok (.tmp (.val v)) sl
  | none => .stuck
@[simp] theorem exfO_s {sl : Sl} {v : DV} : exfO sl (some v) = .ok (.tmp (.val v)) sl := rfl
def exfG (a d : Addr) (f : Str) (sl : Sl) : Option (Option MV) → Res Op
  | some (some (.val (.xcp a' d' ns ds))) => if a' = a ∧ d' = d then exfO sl (fget f ns ds) else .stuck
  | _ => .stuck
@[simp] theorem exfG_s {a d a' d' : Addr} {f : Str} {sl : Sl} {ns : List Str} {ds : List DV} : exfG a d f sl (some (some (.val (.xcp a' d' ns ds)))) = if a' = a ∧ d' = d then exfO sl (fget f ns ds) else .stuck := rfl
@[simp] theorem E.exf_eq {a d : Addr} {f : Str} {i : Nat} {sl : Sl} : E.exf a d f i sl = exfG a d f sl sl[i]? := by
  unfold E.exf exfG exfO
  all_goals rfl
/-- an exception of a class is what its own name catches -/
theorem exm_own {K : PySem.W.Frag} {C : Addr} (h1 : PySem.W.subIn K (.ref C) (.type "BaseException") = some true) (h2 : PySem.W.isClsIn K C = true) (h3 : PySem.W.typeIn K (.ref C) = some (.type "type")) (h4 : PySem.W.subIn K (.ref C) (.ref C) = some true) : PySem.W.exmOne K (.ref C) (.ref C) = some true := by
  have a : (PySem.W.subIn K (.ref C) (.type "BaseException") == some true) = true := by rw [h1]; rfl
  have h2' : (PySem.W.clsIn K C).isSome = true := h2
  have b : ((PySem.W.clsIn K C).isSome && PySem.W.typeIn K (.ref C) == some (.type "type")) = true := by rw [h2', h3]; rfl
  show (if _ = true then (if _ = true then _ else none) else none) = some true
  rw [if_pos a, if_pos b]
  exact h4
end Sy
namespace Sy
open PySem PySem.Spec PyProof.Rows L2
/-! ### any, all -/
def blsOf : List DV → Option (List Bool)
  | [] => some []
  | .bl b :: ds => (blsOf ds).map (b :: ·)
  | _ :: _ => none
theorem blsOf_ok {K : PySem.W.Frag} {G : Hp} : ∀ {ds : List DV} {vs : List V} {bs : List Bool}, blsOf ds = some bs → RDs K G ds vs → vs = bs.map V.bl
  | [], vs, bs, h, r => by cases h; cases r; rfl
  | d :: ds, vs, bs, h, r => by
    cases r with
    | cons q r =>
      cases d with
      | bl i =>
        unfold blsOf at h
        obtain ⟨ms, e1, e2⟩ := map_some h
        subst e2
        cases q
        rw [blsOf_ok e1 r]
        rfl
      | _ => cases h
def anyD : List DV → Option MV
  | [.lst xs] => (blsOf xs).map fun bs => .val (.bl (bs.any id))
  | _ => none
def allD : List DV → Option MV
  | [.lst xs] => (blsOf xs).map fun bs => .val (.bl (bs.all id))
  | _ => none
section
variable {K : PySem.W.Frag}
theorem b_any : BL K (rAny K) anyD := fun P H xs ds m Q h al r q => by
  unfold anyD at h
  split at h
  · rename_i xs
    obtain ⟨bs, e1, e2⟩ := map_some h
    subst e2
    obtain ⟨v, rfl, rv⟩ := rws1 r
    obtain ⟨p, vs, rfl, h1, r1⟩ := rw_lst hid_same rv
    rw [blsOf_ok e1 r1] at h1
    exact ⟨p, bs, rfl, SqL.of h1, new_bl q⟩
  · cases h
theorem b_all : BL K (rAll K) allD := fun P H xs ds m Q h al r q => by
  unfold allD at h
  split at h
  · rename_i xs
    obtain ⟨bs, e1, e2⟩ := map_some h
    subst e2
    obtain ⟨v, rfl, rv⟩ := rws1 r
    obtain ⟨p, vs, rfl, h1, r1⟩ := rw_lst hid_same rv
    rw [blsOf_ok e1 r1] at h1
    exact ⟨p, bs, rfl, SqL.of h1, new_bl q⟩
  · cases h
end
theorem blsOf_bls (bs : List Bool) : blsOf (bs.map DV.bl) = some bs := by
  induction bs with
  | nil => rfl
  | cons b bs ih => simp [blsOf, ih]
@[simp] theorem anyD_bls {bs : List Bool} : anyD [.lst (bs.map DV.bl)] = bl (bs.any id) := by
  unfold anyD
  simp only [blsOf_bls, Option.map_some]
  rfl
@[simp] theorem allD_bls {bs : List Bool} : allD [.lst (bs.map DV.bl)] = bl (bs.all id) := by
  unfold allD
  simp only [blsOf_bls, Option.map_some]
  rfl
/-! ### xs.extend(ys), ys a list or a tuple -/
section
variable {X : Cx}
theorem ext_tup (l : Addr) (xs : Array Value) (n : Nat) (b : Addr) (ys : Array Value) (n2 : Nat) (ob : Obj) (hc : ob.cls = .type "tuple") (hdat : ob.data = .seq ys n2) (g0 : ¬ (!xs.isEmpty && Builtin.List.listTooLong (xs.size + ys.size)) = true) (g1 : xs.size ≤ sizeLine) (g2 : xs.size + ys.size ≤ sizeLine + 1) :
    Meets (Builtin.«list.extend» ⟨[.ref l, .ref b], []⟩) (fun _ R s => s.heap.get? l = some { cls := .type "list", data := .seq xs n } ∧ s.heap.get? b = some ob ∧ R (.ok (.ret Value.none)) { s with heap := s.heap.update l (Obj.mapSeq fun x => x ++ ys), toks := s.toks }) := by
  refine .of_wp fun prog w A R s h => ?_
  obtain ⟨c0, c1, c2, c3⟩ := ob
  simp only at hc hdat
  subst hc hdat
  obtain ⟨hp, g, d, tk, os⟩ := s
  obtain ⟨hl, hb, h⟩ := h
  have f1 := AutoSeq1.idx_int
  have f2 := AutoSeq1.sub_tuple_tuple
  have f3 := AutoSeq1.sub_list_list
  have f4 := AutoSeq1.sub_tuple_list
  have f5 := AutoSeq1.sub_list_tuple
  have hz' : (xs ++ ys).size ≤ sizeLine + 1 := by
    rw [Array.size_append]
    exact g2
  wp_walk using (wpAny_updateSeq hl rfl (hz := g1) (_hz' := hz')), AutoSeq1.wpAny_loadPart' hl, AutoSeq1.wpAny_loadPart' hb
  exact ⟨_, rfl, h⟩
def rExt (K : PySem.W.Frag) : V → List V → Hp → VK → Prop := fun x vs H Q => ∃ l b xs zs, x = .ref l ∧ vs = [.ref b] ∧ H l = some (.lst xs) ∧ (H b = some (.lst zs) ∨ SqT K H b zs) ∧ xs.length + zs.length ≤ sizeLine ∧ Q .non (upd H l (.lst (xs ++ zs)))
theorem mt_ext : MtM X "list.extend" (rExt X.K) := by
  intro pins s σ H x vs v us Q I rx rv h
  obtain ⟨l, b, xs, zs, rfl, rfl, hH, hB, hz, q⟩ := h
  rcases hB with hB | hB
  · exact mt_extend pins s σ H _ _ v us Q I rx rv ⟨l, b, xs, zs, rfl, rfl, hH, hB, hz, q⟩
  · cases rx
    obtain ⟨u, rfl, ru⟩ := rv.one
    cases ru
    obtain ⟨z, its, n, r, hl, e⟩ := I.lstM hH
    obtain ⟨its2, r2, ⟨ob, e2, hc, n2, hdat⟩, z2⟩ := I.tuple hB
    have hl2 := r2.length
    have hsz : its.toArray.size + its2.toArray.size ≤ sizeLine := by
      rw [List.size_toArray, List.size_toArray]
      omega
    have hlong : ¬ (!its.toArray.isEmpty && Builtin.List.listTooLong (its.toArray.size + its2.toArray.size)) = true := fun hq => by
      rw [notLongL hsz, Bool.and_false] at hq
      exact Bool.false_ne_true hq
    refine call_meets F.slot_list_extend ⟨_, e, rfl⟩ F.entry_list_extend (F.args_list_extend_2 _ _) (ext_tup l its.toArray n b its2.toArray n2 ob hc hdat hlong (by rw [List.size_toArray]; omega) (by omega)) ⟨e, e2, ?_⟩
    refine ⟨.non, _, I.lset (its' := its ++ its2) hH e (by simp) (r.append r2) ?_, rfl, q⟩
    rw [List.length_append]
    omega
end
def extF : List DV → List DV → Option (DV × List DV)
  | xs, [.lst ys] => if xs.length + ys.length ≤ 10000000 then some (.non, xs ++ ys) else none
  | xs, [.tup ys] => if xs.length + ys.length ≤ 10000000 then some (.non, xs ++ ys) else none
  | _, _ => none
theorem bm_ext {K : PySem.W.Frag} : BM K (rExt K) extF := fun P H a vs ws xs ds d xs' Q h hH rx rd q => by
  unfold extF at h
  split at h
  · rename_i ys
    by_cases hc : xs.length + ys.length ≤ 10000000
    · rw [if_pos hc] at h
      cases h
      cases rd with
      | cons r1 r2 =>
        cases r2
        cases r1 with
        | lst hb rb => exact ⟨a, _, vs, _, rfl, rfl, hH, .inl (hid_same _ _ hb), by rw [← RDs.length rx, ← RDs.length rb, sizeLine_eq]; omega, q _ _ (rx.append rb) .non⟩
    · rw [if_neg hc] at h; cases h
  · rename_i ys
    by_cases hc : xs.length + ys.length ≤ 10000000
    · rw [if_pos hc] at h
      cases h
      cases rd with
      | cons r1 r2 =>
        cases r2
        cases r1 with
        | tup hb rb => exact ⟨a, _, vs, _, rfl, rfl, hH, .inr (SqT.of (hid_same _ _ hb)), by rw [← RDs.length rx, ← RDs.length rb, sizeLine_eq]; omega, q _ _ (rx.append rb) .non⟩
    · rw [if_neg hc] at h; cases h
  · cases h
@[simp] theorem extF_lst {xs ys : List DV} : extF xs [.lst ys] = if xs.length + ys.length ≤ 10000000 then some (.non, xs ++ ys) else none := rfl
@[simp] theorem extF_tup {xs ys : List DV} : extF xs [.tup ys] = if xs.length + ys.length ≤ 10000000 then some (.non, xs ++ ys) else none := rfl
/-! ### an operator whose left side may raise -/
def E.binX (f : DV → DV → Option MV) (a b : EM) : EM := fun sl => match a sl with
  | .exc x s => .exc x s
  | _ => okE (E.bin f a b) sl
theorem binX_imp {K : PySem.W.Frag} {Wx : WX} {r : R2} {f : DV → DV → Option MV} {ma mb : EM} {σ : L2.St} {H : Hp} {Q : VK} (h : B2 K r f) (q : tEX K Wx (E.binX f ma mb) σ H Q) : tOp r (tEX K Wx ma) (tE K mb) σ H Q := by
  obtain ⟨O, W, sl, x, q⟩ := q
  unfold E.binX at q
  cases e : ma sl with
  | exc y s =>
    rw [e] at q
    refine ⟨O, W, sl, x, ?_⟩
    rw [e]
    exact q
  | stuck =>
    rw [e] at q
    have : okE (E.bin f ma mb) sl = .stuck := by unfold okE E.bin; rw [e]; rfl
    simp only [this] at q
  | ok o1 s1 =>
    rw [e] at q
    have hb : E.bin f ma mb sl = (mb s1).bind fun p sl => match o1.view sl, p.view sl with
      | some d, some e => fin (f d e) sl
      | _, _ => .stuck := by unfold E.bin; rw [e]; rfl
    cases e2 : E.bin f ma mb sl with
    | exc _ _ => have : okE (E.bin f ma mb) sl = .stuck := by unfold okE; rw [e2]
                 simp only [this] at q
    | stuck => have : okE (E.bin f ma mb) sl = .stuck := by unfold okE; rw [e2]
               simp only [this] at q
    | ok o s =>
      have : okE (E.bin f ma mb) sl = .ok o s := by unfold okE; rw [e2]
      simp only [this] at q
      rw [hb] at e2
      obtain ⟨o2, s2, e2, e3⟩ := bind_ok e2
      obtain ⟨d1, d2, ed1, ed2, e3⟩ := hasv2 e3
      obtain ⟨m, em, rfl, rfl⟩ := fin_ok e3
      refine ⟨O, W, sl, x, ?_⟩
      rw [e]
      intro W1 f1 v1 H1 t1 x1 r1 n1
      refine tE_mk x1 e2 fun W2 f2 v2 H2 t2 x2 r2 n2 => ?_
      have r1' := r1.up x1 (fun a h => Or.inr h) t2 (O1 := plus (plus O f1) f2) (fun a h => h)
      refine h (own (plus (plus O f1) f2) W2) H2 v1 v2 d1 d2 m Q em (fun a => x2.ownAlive) (r1'.toW' x2 ed1) (r2.toW' x2 ed2) fun v' H' fr s hf rm => ?_
      obtain ⟨y1, y2, y3, y4⟩ := fin_tmp (t1.trans t2) x2 (fun a h => Or.inl (Or.inl h)) s hf rm
      exact q W2 fr v' H' y1 y2 y3 y4
theorem se_cmpX {X : Cx} {op : CmpOp} {r : R2} {f : DV → DV → Option MV} {a b : Expr} {ma mb : EM} {pos : Pos} (ho : OpR X (compareOp op) r) (h : B2 X.K r f) (ha : SEX X a ma) (hb : SE X b mb) (hm : behindInMarks op b = false := by first | exact nomark _ | rfl) :
    SEX X (.Compare a [op] [b] pos) (E.binX f ma mb) := fun Wx tk => (pe_cmpR ho (ha Wx tk) hb hm).imp fun σ H Q q => binX_imp h q
/-! ### try: .. except C: .. -/
open Classical in
noncomputable def S.tryNo (C : Addr) (body suite : SM) : SM := fun sl => match body sl with
  | .exc x s => if x.cls = C then (match suite s with
    | .exc _ _ => .stuck
    | r => r) else .stuck
  | r => r
theorem tryNo_imp {K : PySem.W.Frag} {Wx : WX} {C : Addr} {mb ms : SM} {as : List Nat} {D : Ends} {σ : L2.St} {H : Hp} (hyes : PySem.W.exmOne K (.ref C) (.ref C) = some true)
    (q : tS K Wx (S.tryNo C mb ms) as D σ H) : tS K (wOnly K (.ref C) (fun a cls d D σ H => cls = .ref C ∧ tS K (fun _ _ _ _ => False) ms as D σ H) Wx D) mb as D σ H := by
  obtain ⟨O, W, sl, x, q⟩ := q
  refine ⟨O, W, sl, x, ?_⟩
  unfold S.tryNo at q
  cases e : mb sl with
  | nx s => rw [e] at q; exact q
  | bk s => rw [e] at q; exact q
  | ct s => rw [e] at q; exact q
  | ret m s => rw [e] at q; exact q
  | stuck => rw [e] at q; exact q.elim
  | exc y s =>
    rw [e] at q
    simp only at q
    intro W' σ' H' cls d t' x' a' rx
    by_cases hc : y.cls = C
    · rw [if_pos hc] at q
      obtain ⟨e1, _⟩ := id rx
      refine ⟨true, by rw [e1, hc]; exact hyes, fun _ a na => ⟨by rw [e1, hc], O, W', s, x', ?_⟩, fun z => nomatch z⟩
      cases em : ms s with
      | nx s2 => rw [em] at q; exact fun W3 σ3 H3 t3 x3 a3 => q W3 σ3 H3 (t'.trans t3) x3 (a'.trans a3)
      | bk s2 => rw [em] at q; exact fun W3 σ3 H3 t3 x3 a3 => q W3 σ3 H3 (t'.trans t3) x3 (a'.trans a3)
      | ct s2 => rw [em] at q; exact fun W3 σ3 H3 t3 x3 a3 => q W3 σ3 H3 (t'.trans t3) x3 (a'.trans a3)
      | ret m s2 => rw [em] at q; exact fun W3 f v σ3 H3 t3 x3 r3 n3 a3 => q W3 f v σ3 H3 (t'.trans t3) x3 r3 n3 (a'.trans a3)
      | exc z s2 => rw [em] at q; exact q.elim
      | stuck => rw [em] at q; exact q.elim
    · rw [if_neg hc] at q; exact q.elim
theorem ss_tryNo {X : Cx} {as : List Nat} {x : Str} {C : Addr} {body suite : List Stmt} {b0 : Stmt} {np pos pos' : Pos} {mb ms : SM} (hs : X.stack = X.env :: X.outer) (hf : X.env.frame = some X.env.locals) (hc : Names X x (.ref C)) (hyes : PySem.W.exmOne X.K (.ref C) (.ref C) = some true)
    (hbody : ∀ (pn : List (Addr × Obj)) (xe : Value → Shared → Prop), PassesOwn (model X.prog X.w) X.A X.env xe → SSs (X.tr pn xe) body mb as)
    (hsuite : ∀ (a : Addr) (oe : Obj) (pn : List (Addr × Obj)), SSs (X.suite a ((a, oe) :: pn)) (b0 :: suite) ms as) : SS X (.Try body [.ExceptHandler (some (.Name x np)) none (b0 :: suite) pos'] [] [] pos) (S.tryNo C mb ms) as := fun Wx tk =>
  (ps_try_only (tb := fun W => tS X.K W mb as) (ts := fun a cls d D σ H => cls = .ref C ∧ tS X.K (fun _ _ _ _ => False) ms as D σ H) hs hf hc tk (fun W pn xe t po => hbody pn xe po W t) (fun a oe cls d pn hz hf' =>
    (hsuite a oe pn _ takes0).imp fun D σ H q => q.2)).imp fun D σ H q => tryNo_imp hyes q
end Sy
namespace Sy
open PySem PySem.Spec PyProof.Rows L2
/-! ### {"a": x, ..}[y] -/
def dselD (ks : List Str) : DV → DV → Option MV
  | .tup ds, .str k => ((ks.zip ds).lookup k).map MV.val
  | _, _ => none
abbrev E.dsel (ks : List Str) (ms : AM) (y : EM) : EM := E.bin (dselD ks) (E.tup ms) y
@[simp] theorem dselD_eq {ks : List Str} {ds : List DV} {k : Str} : dselD ks (.tup ds) (.str k) = ((ks.zip ds).lookup k).map MV.val := rfl
def DP (X : Cx) (pos : Pos) (ks : List Str) (keys : List (Option Expr)) (es : List Expr) (ms : AM) : Prop := ∃ trs, PPs X pos keys es trs ∧ ∀ σ H (Q : List (V × V) → Hp → Prop), tAs X.K ms σ H (fun vs H' => Q ((ks.map V.str).zip vs) H') → tPairs trs σ H Q
theorem tE_mono {K : PySem.W.Frag} {m : EM} {σ : L2.St} {H : Hp} {Q Q' : VK} (q : tE K m σ H Q) (h : ∀ v H', Q v H' → Q' v H') : tE K m σ H Q' := by
  obtain ⟨O, W, sl, o, sl', x, e, q⟩ := tE_of q
  exact tE_mk x e fun W' f v H' t x' r n => h _ _ (q W' f v H' t x' r n)
section
variable {X : Cx} {pos p : Pos} {ks : List Str} {k : Str} {j} {keys : List (Option Expr)} {e : Expr} {es : List Expr} {ma : EM} {ms : AM}
theorem asNil' {K : PySem.W.Frag} {σ : L2.St} {H : Hp} {Q : List V → Hp → Prop} (q : tAs K A.nil σ H Q) : Q [] H := by
  obtain ⟨O, W, sl, os, sl', x, e, q⟩ := tAs_of q
  cases e
  exact q W noF [] H ⟨fun _ _ h _ => h, fun i a h => .inl ⟨i, h⟩, fun a ⟨j, h⟩ => by simp [noF] at h⟩
    (x.less fun a h => h.elim id fun ⟨j, h⟩ => by simp [noF] at h) ⟨rfl, fun j o h => by simp at h, fun _ _ => rfl, fun i j a h => by simp [noF] at h⟩ fun j a h => by simp [noF] at h
theorem dp_nil : DP X pos [] [] [] A.nil := ⟨[], pps_nil, fun σ H Q q => asNil' q⟩
theorem dp_cons (ha : SE X e ma) (hr : DP X pos ks keys es ms) : DP X pos (k :: ks) (some (.Constant (.str k) j p) :: keys) (e :: es) (A.cons ma ms) := by
  obtain ⟨trs, h1, h2⟩ := hr
  refine ⟨(tC (.str k), tE X.K ma) :: trs, pps_cons pe_str ha h1, fun σ H Q q => ?_⟩
  exact tE_mono (cons_imp q) fun v H1 q1 => h2 σ H1 _ q1
end
theorem merge_app {kvs : List (Key × V)} : ∀ {acc : List (Key × V)}, ((acc ++ kvs).map (·.1)).Nodup → mergeK acc kvs = acc ++ kvs := by
  induction kvs with
  | nil => intro acc _; simp [mergeK]
  | cons p kvs ih =>
    intro acc h
    have hn : valV acc p.1 = none := by
      cases e : valV acc p.1 with
      | none => rfl
      | some y =>
        exfalso
        unfold valV at e
        cases e2 : acc.find? fun kv => decide (kv.1 = p.1) with
        | none => rw [e2] at e; cases e
        | some z =>
          have z1 := List.mem_of_find?_eq_some e2
          have z2 := List.find?_some e2
          simp only [decide_eq_true_eq] at z2
          rw [List.map_append, List.nodup_append] at h
          exact h.2.2 z.1 (List.mem_map.mpr ⟨z, z1, rfl⟩) p.1 (by simp) z2
    have e1 : mergeK acc (p :: kvs) = mergeK (putK acc p.1 p.2) kvs := rfl
    rw [e1, putK_new _ hn, ih (by simpa using h)]
    simp
theorem val_zip {k : Str} : ∀ {ks : List Str} {vs : List V}, valV ((ks.map (Sum.inr : Str → Key)).zip vs) (Sum.inr k) = (ks.zip vs).lookup k
  | [], vs => rfl
  | k0 :: ks, [] => rfl
  | k0 :: ks, v :: vs => by
    rw [List.map_cons, List.zip_cons_cons, List.zip_cons_cons, List.lookup_cons]
    by_cases h : k0 = k
    · subst h
      rw [valV_pos rfl]
      simp
    · rw [valV_neg (fun z => h (Sum.inr.inj z)), val_zip]
      have : (k == k0) = false := by simpa using fun z => h z.symm
      rw [this]
theorem look_rd {K : PySem.W.Frag} {G : Hp} {k : Str} : ∀ {ks : List Str} {ds : List DV} {vs : List V} {d : DV}, RDs K G ds vs → (ks.zip ds).lookup k = some d → ∃ v, (ks.zip vs).lookup k = some v ∧ RD K G d v
  | [], ds, vs, d, r, h => by simp at h
  | k0 :: ks, [], vs, d, r, h => by simp at h
  | k0 :: ks, d0 :: ds, vs, d, r, h => by
    cases r with
    | cons r1 r2 =>
      rw [List.zip_cons_cons, List.lookup_cons] at h
      rw [List.zip_cons_cons, List.lookup_cons]
      by_cases hk : (k == k0) = true
      · rw [hk] at h ⊢
        cases h
        exact ⟨_, rfl, r1⟩
      · rw [Bool.eq_false_iff.mpr hk] at h ⊢
        exact look_rd r2 h
theorem zip_kv : ∀ (ks : List Str) (vs : List V), ((ks.map (Sum.inr : Str → Key)).zip vs).map (fun kv => (kV kv.1, kv.2)) = (ks.map V.str).zip vs
  | [], vs => by simp
  | k :: ks, [] => by simp
  | k :: ks, v :: vs => by
    rw [List.map_cons, List.map_cons, List.zip_cons_cons, List.zip_cons_cons, List.map_cons, zip_kv ks vs]
    rfl
theorem zip_sub : ∀ (ks : List Str) (vs : List V), (((ks.map (Sum.inr : Str → Key)).zip vs).map (·.1)).Sublist (ks.map Sum.inr)
  | [], vs => by simp
  | k :: ks, [] => by simp
  | k :: ks, v :: vs => by
    rw [List.map_cons, List.zip_cons_cons, List.map_cons]
    exact (zip_sub ks vs).cons₂ _
theorem zip_nodup {ks : List Str} (h : ks.Nodup) (vs : List V) : (((ks.map (Sum.inr : Str → Key)).zip vs).map (·.1)).Nodup :=
  List.Nodup.sublist (zip_sub ks vs) (List.Pairwise.map _ (fun a b hab z => hab (Sum.inr.inj z)) h)
theorem gr_at {O : Addr → Prop} {W : Own} {H : Hp} {p : Addr} {ob : HO} (hp : O p) : Same (gr O W H) (gr O W (upd H p ob)) := fun a o h => by
  obtain ⟨h1, h2⟩ := hid_some.mp h
  refine hid_some.mpr ⟨h1, ?_⟩
  rw [upd_ne (show a ≠ p from fun z => h1 (.inl (by rw [z]; exact hp)))]
  exact h2
theorem dsel_imp {X : Cx} {ks : List Str} {ms : AM} {my : EM} {σ : L2.St} {H : Hp} {Q : VK} {trs : List (TE × TE)} (hk : ks.Nodup) (h15 : ks.length ≤ 15) (ht : ∀ σ H (Q : List (V × V) → Hp → Prop), tAs X.K ms σ H (fun vs H' => Q ((ks.map V.str).zip vs) H') → tPairs trs σ H Q)
    (q : tE X.K (E.dsel ks ms my) σ H Q) : tDGet (tDisp trs) (tE X.K my) σ H Q := by
  obtain ⟨O, W, sl, o, sl', x, e, q⟩ := tE_of q
  obtain ⟨o1, s1, e1, g2⟩ := bind_ok e
  obtain ⟨o2, s2, em2, e3⟩ := bind_ok g2
  obtain ⟨d1, d2, ed1, ed2, e3⟩ := hasv2 e3
  obtain ⟨m, em, rfl, rfl⟩ := fin_ok e3
  unfold E.tup E.disp at e1
  obtain ⟨os, sa, e0, e1⟩ := bind_ok e1
  cases es : settle os sa with
  | none => rw [es] at e1; cases e1
  | some pr =>
    obtain ⟨ds, sb⟩ := pr
    rw [es] at e1
    simp only at e1
    have e1' : o1 = .tmp (.val (.tup ds)) ∧ s1 = sb := by
      by_cases hc : ds.length ≤ 1000
      · rw [if_pos hc] at e1
        cases e1
        exact ⟨rfl, rfl⟩
      · rw [if_neg hc] at e1; cases e1
    obtain ⟨rfl, rfl⟩ := e1'
    have ed1' : d1 = .tup ds := by
      simp [Op.view, Op.cont, MV.view] at ed1
      exact ed1.symm
    subst ed1'
    cases d2 with
    | str k =>
      rw [dselD_eq] at em
      obtain ⟨d, el, ed⟩ := map_some em
      subst ed
      intro p hp
      refine ht _ _ _ ?_
      have sm : Same H (upd H p (.dK [])) := fun b ob eb => by rw [upd_ne (ne_of_none eb hp)]; exact eb
      have x0 : Sim X.K (plus O [p]) W sl σ (upd H p (.dK [])) := x.grow sm (fun b h => h.imp id fun h => by simp at h; rw [h]; exact hp) fun b h => by
        rcases h with h | h
        · obtain ⟨ob, eb⟩ := x.al b h
          exact ⟨ob, sm b ob eb⟩
        · simp at h
          subst h
          exact ⟨_, upd_same⟩
      have hpO : plus O [p] p := .inr (by simp)
      refine tAs_mk x0 e0 fun W1 F vs H1 t1 x1 r1 n1 => ?_
      obtain ⟨W2, x2, rd, sh⟩ := settle_ok os sa s1 ds W1 F vs es x1 r1 n1
      have hp1 : H1 p = some (.dK []) := t1.keep p _ upd_same fun i hi => x0.dis i p hi hpO
      have hl := RDs.length rd
      refine ⟨hp1, (ks.map (Sum.inr : Str → Key)).zip vs, ?_, ?_, ?_⟩
      · exact (zip_kv ks vs).symm
      · simp; omega
      · have mg : mergeK [] ((ks.map (Sum.inr : Str → Key)).zip vs) = (ks.map (Sum.inr : Str → Key)).zip vs := by
          rw [merge_app, List.nil_append]
          rw [List.nil_append]
          exact zip_nodup hk vs
        rw [mg]
        have x3 := (x2.updO (a := p) (o := .dK ((ks.map (Sum.inr : Str → Key)).zip vs)) hpO).1
        refine tE_mk x3 em2 fun W3 f3 y H3 t3 x4 r3 n3 => ?_
        have hy := rw_str (r3.toW' x4 ed2)
        subst hy
        have hp3 : H3 p = some (.dK ((ks.map (Sum.inr : Str → Key)).zip vs)) := t3.keep p _ upd_same fun i hi => x3.dis i p hi hpO
        obtain ⟨v, ev, rv⟩ := look_rd rd el
        have hg : DGet H3 p (V.str k) (valV ((ks.map (Sum.inr : Str → Key)).zip vs) (Sum.inr k)) := DGet.k (k := Sum.inr k) hp3
        rw [val_zip, ev] at hg
        refine ⟨p, v, rfl, hg, ?_⟩
        refine q W3 [] v H3 ⟨fun a ob ha hn => ?_, fun i a ha => ?_, fun a h => by simp at h⟩ (x4.less fun a h => ?_) (.tmp (.val ?_)) fun a h => by simp at h
        · have hap : a ≠ p := ne_of_none ha hp
          have a1 : H1 a = some ob := t1.keep a ob (sm a ob ha) hn
          refine t3.keep a ob (by rw [upd_ne hap]; exact a1) fun i hi => ?_
          rcases t1.new i a (sh i a hi) with ⟨j, hj⟩ | z
          · exact hn j hj
          · rw [sm a ob ha] at z; cases z
        · have back : ∀ {b : Addr}, (∃ j, b ∈ W2 j) ∨ upd H1 p (.dK ((ks.map (Sum.inr : Str → Key)).zip vs)) b = none → (∃ j, b ∈ W j) ∨ H b = none := fun {b} h => by
            have h2 : (∃ j, b ∈ W1 j) ∨ H1 b = none := by
              rcases h with ⟨j, h⟩ | h
              · exact .inl ⟨j, sh j b h⟩
              · by_cases hb : b = p
                · subst hb; rw [upd_same] at h; cases h
                · rw [upd_ne hb] at h; exact .inr h
            rcases t1.back h2 with h3 | h3
            · exact .inl h3
            · by_cases hb : b = p
              · subst hb; rw [upd_same] at h3; cases h3
              · rw [upd_ne hb] at h3; exact .inr h3
          exact back (t3.new i a ha)
        · rcases h with h | h
          · exact .inl (.inl h)
          · simp at h
        · exact (rv.up (gr_at hpO)).up (gr_tr t3 fun a h => h.elim (fun h => .inl (.inl h)) fun h => by simp at h)
    | _ => cases em
theorem se_dsel {X : Cx} {pos pos' : Pos} {ks : List Str} {keys : List (Option Expr)} {es : List Expr} {ms : AM} {i : Expr} {mi : EM} (hu : X.A.units + 1 < cLine) (hd : DP X pos ks keys es ms) (hi : SE X i mi) (hk : ks.Nodup := by decide) (h15 : ks.length ≤ 15 := by decide) (hall : keys.all (·.isSome) = true := by rfl) (hl : keys.length = es.length := by rfl) (h0 : keys ≠ [] := by simp) (hk15 : keys.length ≤ 15 := by decide)
    (hs : NoSl i := by intro _ _; rfl) : SE X (.Subscript (.Dict keys es pos) i pos') (E.dsel ks ms mi) := by
  obtain ⟨trs, h1, h2⟩ := hd
  exact (pe_dget hu (pe_disp h1 hall hl h0 hk15) hi hs).imp fun σ H Q q => dsel_imp hk h15 h2 q
end Sy
namespace Sy
open PySem PySem.Spec PyProof.Rows L2
/-! ### a deck of draws, shapes -/
noncomputable def b_ldraw : SM := (S.seq (S.ife (T.val (E.bin geD (E.bin ixD (E.var 0) (E.c (.int 2))) (E.var 1))) (S.seq (S.asg 2 (E.bin modD (E.app intD (A.cons (E.bin ixD (E.var 0) (E.c (.int 2))) A.nil)) (E.var 1)))
    (S.seq (S.seti 0 (E.c (.int 2)) (E.bin fdivD (E.bin ixD (E.var 0) (E.c (.int 2))) (E.var 1)))
    (S.ret 2 (E.var 2)))) S.nil)
    (S.seq (S.asg 3 (E.c (.int 0)))
    (S.seq (S.ife (T.val (E.bin ltD (E.bin ixD (E.var 0) (E.c (.int 1))) (E.app lenD (A.cons (E.bin ixD (E.var 0) (E.c (.int 0))) A.nil)))) (S.asg 3 (E.bin ixD (E.bin ixD (E.var 0) (E.c (.int 0))) (E.bin ixD (E.var 0) (E.c (.int 1))))) S.nil)
    (S.seq (S.seti 0 (E.c (.int 1)) (E.bin addD (E.bin ixD (E.var 0) (E.c (.int 1))) (E.c (.int 1))))
    (S.seq (S.seti 0 (E.c (.int 2)) (E.c (.int 0)))
    (S.seq (S.ife (T.val (E.bin geD (E.var 3) (E.bin powD (E.c (.int 10)) (E.c (.int 18))))) (S.seq (S.seti 0 (E.c (.int 2)) (E.bin fdivD (E.var 3) (E.var 1)))
    (S.ret 2 (E.bin modD (E.app intD (A.cons (E.var 3) A.nil)) (E.var 1)))) S.nil)
    (S.seq (S.seti 0 (E.c (.int 3)) (E.bin modD (E.app intD (A.cons (E.bin addD (E.bin addD (E.bin mulD (E.bin ixD (E.var 0) (E.c (.int 3))) (E.c (.int 48271))) (E.bin mulD (E.var 3) (E.c (.int 69621)))) (E.bin mulD (E.bin ixD (E.var 0) (E.c (.int 1))) (E.c (.int 911)))) A.nil)) (E.c (.int 2147483647))))
    (S.seq (S.seti 0 (E.c (.int 3)) (E.bin modD (E.app intD (A.cons (E.bin addD (E.bin mulD (E.bin ixD (E.var 0) (E.c (.int 3))) (E.c (.int 48271))) (E.c (.int 12345))) A.nil)) (E.c (.int 2147483647))))
    (S.ret 2 (E.bin modD (E.app intD (A.cons (E.bin fdivD (E.bin ixD (E.var 0) (E.c (.int 3))) (E.c (.int 64))) A.nil)) (E.var 1)))))))))))
noncomputable def r_ldraw : FM := fn 2 2 [2, 3] b_ldraw
noncomputable def b_ldeck : SM := (S.ret 1 (E.lst (A.cons (E.app listD (A.cons (E.var 0) A.nil)) (A.cons (E.c (.int 0)) (A.cons (E.c (.int 0)) (A.cons (E.c (.int 7)) A.nil))))))
noncomputable def r_ldeck : FM := fn 1 0 [] b_ldeck
noncomputable def m_lrow_1 : EM := (E.bin ixD (E.lst (A.cons (E.c (.int 0)) (A.cons (E.c (.int 0)) (A.cons (E.c (.int 1)) (A.cons (E.c (.int 2)) (A.cons (E.c (.int 3)) (A.cons (E.c (.int 7)) A.nil))))))) (E.call 2 r_ldraw (A.cons (E.var 0) (A.cons (E.c (.int 6)) A.nil))))
noncomputable def b_lrow : SM := (S.ret 2 (E.lc (I.rng1 (A.cons (E.bin addD (E.c (.int 1)) (E.call 2 r_ldraw (A.cons (E.var 0) (A.cons (E.var 1) A.nil)))) A.nil)) (.nm 2) T.yes m_lrow_1 [2]))
noncomputable def r_lrow : FM := fn 2 1 [] b_lrow
noncomputable def l_lsame_1 (g : FM) : SM := (S.ife (T.not (T.tru (E.call 2 g (A.cons (E.bin ixD (E.var 0) (E.var 2)) (A.cons (E.bin ixD (E.var 1) (E.var 2)) A.nil))))) (S.ret 2 (E.c (.bl false))) S.nil)
noncomputable def b_lsame (g : FM) : SM := (S.seq (S.ife (T.or (T.tru (E.app isiD (A.cons (E.var 1) (A.cons (E.c (.ty .tup)) A.nil)))) (T.tru (E.app isiD (A.cons (E.var 1) (A.cons (E.c (.ty .lst)) A.nil))))) (S.seq (S.ife (T.or (T.val (E.bin neD (E.app isiD (A.cons (E.var 1) (A.cons (E.c (.ty .tup)) A.nil))) (E.app isiD (A.cons (E.var 0) (A.cons (E.c (.ty .tup)) A.nil))))) (T.val (E.bin neD (E.app isiD (A.cons (E.var 1) (A.cons (E.c (.ty .lst)) A.nil))) (E.app isiD (A.cons (E.var 0) (A.cons (E.c (.ty .lst)) A.nil)))))) (S.ret 2 (E.c (.bl false))) S.nil)
    (S.seq (S.ife (T.val (E.bin neD (E.app lenD (A.cons (E.var 0) A.nil)) (E.app lenD (A.cons (E.var 1) A.nil)))) (S.ret 2 (E.c (.bl false))) S.nil)
    (S.seq (S.forr (I.rng1 (A.cons (E.app lenD (A.cons (E.var 1) A.nil)) A.nil)) (.nm 2) (l_lsame_1 g))
    (S.ret 2 (E.c (.bl true)))))) S.nil)
    (S.seq (S.ife (T.or (T.tru (E.app isiD (A.cons (E.var 1) (A.cons (E.c (.ty .bl)) A.nil)))) (T.tru (E.app isiD (A.cons (E.var 0) (A.cons (E.c (.ty .bl)) A.nil))))) (S.ret 2 (E.and (E.app isiD (A.cons (E.var 1) (A.cons (E.c (.ty .bl)) A.nil))) (E.and (E.app isiD (A.cons (E.var 0) (A.cons (E.c (.ty .bl)) A.nil))) (E.bin eqD (E.var 1) (E.var 0))))) S.nil)
    (S.seq (S.ife (T.tru (E.app isiD (A.cons (E.var 1) (A.cons (E.c (.ty .int)) A.nil)))) (S.ret 2 (E.and (E.app isiD (A.cons (E.var 0) (A.cons (E.c (.ty .int)) A.nil))) (E.bin eqD (E.var 0) (E.var 1)))) S.nil)
    (S.seq (S.ife (T.tru (E.app isiD (A.cons (E.var 1) (A.cons (E.c (.ty .str)) A.nil)))) (S.ret 2 (E.and (E.app isiD (A.cons (E.var 0) (A.cons (E.c (.ty .str)) A.nil))) (E.bin eqD (E.var 0) (E.var 1)))) S.nil)
    (S.ret 2 (E.and (E.bin isD2 (E.var 1) (E.c .non)) (E.bin isD2 (E.var 0) (E.c .non))))))))
noncomputable def r_lsame : Nat → FM
  | 0 => fun _ => .stuck
  | k + 1 => fn 2 1 [2] (b_lsame (r_lsame k))
noncomputable def m_lshape_1 : EM := (E.slc slD (E.lst (A.cons (E.bin addD (E.c (.int 40)) (E.var 3)) (A.cons (E.c (.int 7)) A.nil))) OP.none (OP.some (E.bin addD (E.c (.int 1)) (E.call 2 r_ldraw (A.cons (E.var 0) (A.cons (E.c (.int 2)) A.nil))))))
noncomputable def b_lshape : SM := (S.seq (S.asg 1 (E.bin addD (E.c (.int 8)) (E.call 2 r_ldraw (A.cons (E.var 0) (A.cons (E.c (.int 4)) A.nil)))))
    (S.seq (S.asg 2 (E.lc (I.rng1 (A.cons (E.c (.int 10)) A.nil)) (.nm 3) T.yes m_lshape_1 [3]))
    (S.seq (S.seti 2 (E.c (.int 8)) (E.slc slD (E.lst (A.cons (E.c (.int 48)) (A.cons (E.c (.int 7)) A.nil))) OP.none (OP.some (E.app lenD (A.cons (E.bin ixD (E.var 2) (E.c (.int 7))) A.nil)))))
    (S.ret 1 (E.lst (A.cons (E.var 1) (A.cons (E.var 2) A.nil)))))))
noncomputable def r_lshape : FM := fn 1 3 [1, 2] b_lshape
noncomputable def m_mkinit_1 : EM := (E.app tupleD (A.cons (E.var 9) A.nil))
noncomputable def b_mkinit (C D : Addr) : SM := (S.seq (S.setf C "head" 0 (E.app tupleD (A.cons (E.var 1) A.nil)))
    (S.seq (S.setf C "par" 0 (E.app tupleD (A.cons (E.var 2) A.nil)))
    (S.seq (S.setf C "depths" 0 (E.lc (I.lst (E.var 3)) (.nm 9) T.yes m_mkinit_1 [9]))
    (S.seq (S.setf C "note" 0 (E.app tupleD (A.cons (E.var 4) A.nil)))
    (S.seq (S.setf C "stop" 0 (E.app tupleD (A.cons (E.var 5) A.nil)))
    (S.seq (S.setf C "on" 0 (E.app tupleD (A.cons (E.var 6) A.nil)))
    (S.seq (S.setf C "joined" 0 (E.app tupleD (A.cons (E.var 7) A.nil)))
    (S.setf C "number" 0 (E.app tupleD (A.cons (E.var 8) A.nil))))))))))
noncomputable def r_mkinit (C D : Addr) : FM := fn 9 1 [] (b_mkinit C D)
noncomputable def b_allm (C D : Addr) : SM := (S.ret 1 (E.bin addD (E.lst (A.cons (E.un (fldD C "head") (E.var 0)) (A.cons (E.un (fldD C "par") (E.var 0)) (A.cons (E.un (fldD C "note") (E.var 0)) (A.cons (E.un (fldD C "stop") (E.var 0)) (A.cons (E.un (fldD C "on") (E.var 0)) (A.cons (E.un (fldD C "joined") (E.var 0)) (A.cons (E.un (fldD C "number") (E.var 0)) A.nil)))))))) (E.un (fldD C "depths") (E.var 0))))
noncomputable def r_allm (C D : Addr) : FM := fn 1 0 [] (b_allm C D)
noncomputable def m_ismk_1 : EM := (E.chain leD leD (E.c (.int 0)) (E.var 1) (E.c (.int 63)))
noncomputable def b_ismk : SM := (S.ret 1 (E.and (E.chain leD leD (E.c (.int 1)) (E.app lenD (A.cons (E.var 0) A.nil)) (E.c (.int 2))) (E.and (E.bin neD (E.bin ixD (E.var 0) (E.c (.int 0))) (E.c (.int 0))) (E.app allD (A.cons (E.lc (I.tup (E.var 0)) (.nm 1) T.yes m_ismk_1 [1]) A.nil)))))
noncomputable def r_ismk : FM := fn 1 1 [] b_ismk
noncomputable def m_right_1 : EM := (E.call 1 r_ismk (A.cons (E.var 3) A.nil))
noncomputable def c_right_1 : TM := (T.val (E.bin neD (E.var 4) (E.var 2)))
noncomputable def m_right_2 : EM := (E.bin eqD (E.slc slD (E.var 5) OP.none (OP.some (E.app lenD (A.cons (E.var 3) A.nil)))) (E.var 3))
noncomputable def l_right_1 : SM := (S.ife (T.tru (E.app anyD (A.cons (E.lc (I.enum (A.cons (E.var 1) A.nil)) (.tp [(.nm 4), (.nm 5)]) c_right_1 m_right_2 [4, 5]) A.nil))) (S.ret 1 (E.c (.bl false))) S.nil)
noncomputable def b_right (C D : Addr) : SM := (S.seq (S.asg 1 (E.call 1 (r_allm C D) (A.cons (E.var 0) A.nil)))
    (S.seq (S.ife (T.or (T.val (E.bin neD (E.app lenD (A.cons (E.un (fldD C "depths") (E.var 0)) A.nil)) (E.c (.int 3)))) (T.or (T.not (T.tru (E.app allD (A.cons (E.lc (I.lst (E.var 1)) (.nm 3) T.yes m_right_1 [3]) A.nil)))) (T.val (E.bin neD (E.app lenD (A.cons (E.un (fldD C "on") (E.var 0)) A.nil)) (E.app lenD (A.cons (E.un (fldD C "joined") (E.var 0)) A.nil)))))) (S.ret 1 (E.c (.bl false))) S.nil)
    (S.seq (S.forr (I.enum (A.cons (E.var 1) A.nil)) (.tp [(.nm 2), (.nm 3)]) l_right_1)
    (S.ret 1 (E.c (.bl true))))))
noncomputable def r_right (C D : Addr) : FM := fn 1 5 [1, 2, 3] (b_right C D)
noncomputable def b_shinit (C D : Addr) : SM := (S.seq (S.ife (T.or (T.not (T.val (E.chain leD leD (E.c (.int 8)) (E.var 1) (E.c (.int 40))))) (T.or (T.not (T.val (E.chain leD leD (E.c (.int 3)) (E.var 2) (E.c (.int 30))))) (T.or (T.not (T.val (E.chain leD leD (E.c (.int 1)) (E.var 3) (E.c (.int 50))))) (T.not (T.tru (E.call 1 (r_right C D) (A.cons (E.var 4) A.nil))))))) S.never S.nil)
    (S.seq (S.setf D "width" 0 (E.var 1))
    (S.seq (S.setf D "height" 0 (E.var 2))
    (S.seq (S.setf D "size" 0 (E.var 3))
    (S.setf D "marks" 0 (E.make C 9 (r_mkinit C D) (A.cons (E.un (fldD C "head") (E.var 4)) (A.cons (E.un (fldD C "par") (E.var 4)) (A.cons (E.un (fldD C "depths") (E.var 4)) (A.cons (E.un (fldD C "note") (E.var 4)) (A.cons (E.un (fldD C "stop") (E.var 4)) (A.cons (E.un (fldD C "on") (E.var 4)) (A.cons (E.un (fldD C "joined") (E.var 4)) (A.cons (E.un (fldD C "number") (E.var 4)) A.nil))))))))))))))
noncomputable def r_shinit (C D : Addr) : FM := fn 5 0 [] (b_shinit C D)
noncomputable def b_lshaped (C D : Addr) : SM := (S.seq (S.asg 1 (E.bin ixD (E.var 0) (E.c (.int 1))))
    (S.seq (S.asg 2 (E.make C 9 (r_mkinit C D) (A.cons (E.bin ixD (E.var 1) (E.c (.int 0))) (A.cons (E.bin ixD (E.var 1) (E.c (.int 1))) (A.cons (E.slc slD (E.var 1) (OP.some (E.c (.int 2))) (OP.some (E.c (.int 5)))) (A.cons (E.bin ixD (E.var 1) (E.c (.int 5))) (A.cons (E.bin ixD (E.var 1) (E.c (.int 6))) (A.cons (E.bin ixD (E.var 1) (E.c (.int 7))) (A.cons (E.bin ixD (E.var 1) (E.c (.int 8))) (A.cons (E.bin ixD (E.var 1) (E.c (.int 9))) A.nil))))))))))
    (S.ret 1 (E.make D 5 (r_shinit C D) (A.cons (E.bin ixD (E.var 0) (E.c (.int 0))) (A.cons (E.c (.int 4)) (A.cons (E.c (.int 10)) (A.cons (E.var 2) A.nil))))))))
noncomputable def r_lshaped (C D : Addr) : FM := fn 1 2 [1, 2] (b_lshaped C D)

@[simp] theorem fn_eq9 {k : Nat} {as : List Nat} {b : SM} {x1 x2 x3 x4 x5 x6 x7 x8 x9 : MV} : fn 9 k as b [x1, x2, x3, x4, x5, x6, x7, x8, x9] = (b (some x1 :: some x2 :: some x3 :: some x4 :: some x5 :: some x6 :: some x7 :: some x8 :: some x9 :: List.replicate k none)).fend as [x1, x2, x3, x4, x5, x6, x7, x8, x9] := fn_eq rfl
@[simp] theorem atI_c3 {α : Type} {a0 a1 a2 a3 : α} {l : List α} : atI (a0 :: a1 :: a2 :: a3 :: l) 3 = some a3 := atI_n (n := 3)
@[simp] theorem atI_c4 {α : Type} {a0 a1 a2 a3 a4 : α} {l : List α} : atI (a0 :: a1 :: a2 :: a3 :: a4 :: l) 4 = some a4 := atI_n (n := 4)
@[simp] theorem atI_c5 {α : Type} {a0 a1 a2 a3 a4 a5 : α} {l : List α} : atI (a0 :: a1 :: a2 :: a3 :: a4 :: a5 :: l) 5 = some a5 := atI_n (n := 5)
@[simp] theorem atI_c6 {α : Type} {a0 a1 a2 a3 a4 a5 a6 : α} {l : List α} : atI (a0 :: a1 :: a2 :: a3 :: a4 :: a5 :: a6 :: l) 6 = some a6 := atI_n (n := 6)
@[simp] theorem atI_c7 {α : Type} {a0 a1 a2 a3 a4 a5 a6 a7 : α} {l : List α} : atI (a0 :: a1 :: a2 :: a3 :: a4 :: a5 :: a6 :: a7 :: l) 7 = some a7 := atI_n (n := 7)
@[simp] theorem atI_c8 {α : Type} {a0 a1 a2 a3 a4 a5 a6 a7 a8 : α} {l : List α} : atI (a0 :: a1 :: a2 :: a3 :: a4 :: a5 :: a6 :: a7 :: a8 :: l) 8 = some a8 := atI_n (n := 8)
@[simp] theorem atI_c9 {α : Type} {a0 a1 a2 a3 a4 a5 a6 a7 a8 a9 : α} {l : List α} : atI (a0 :: a1 :: a2 :: a3 :: a4 :: a5 :: a6 :: a7 :: a8 :: a9 :: l) 9 = some a9 := atI_n (n := 9)
@[simp] theorem ixN_4_1 : ixN 4 1 = some 1 := ixN_n (n := 4) (k := 1) (by omega)
@[simp] theorem ixN_4_2 : ixN 4 2 = some 2 := ixN_n (n := 4) (k := 2) (by omega)
@[simp] theorem ixN_4_3 : ixN 4 3 = some 3 := ixN_n (n := 4) (k := 3) (by omega)
@[simp] theorem ixN_10_8 : ixN 10 8 = some 8 := ixN_n (n := 10) (k := 8) (by omega)
@[simp] theorem ixN_6_0 : ixN 6 0 = some 0 := ixN_n (n := 6) (k := 0) (by omega)
@[simp] theorem ixN_6_1 : ixN 6 1 = some 1 := ixN_n (n := 6) (k := 1) (by omega)
@[simp] theorem ixN_6_2 : ixN 6 2 = some 2 := ixN_n (n := 6) (k := 2) (by omega)
@[simp] theorem ixN_6_3 : ixN 6 3 = some 3 := ixN_n (n := 6) (k := 3) (by omega)
@[simp] theorem ixN_6_4 : ixN 6 4 = some 4 := ixN_n (n := 6) (k := 4) (by omega)
@[simp] theorem ixN_6_5 : ixN 6 5 = some 5 := ixN_n (n := 6) (k := 5) (by omega)
def Deck (l : List DV) : Prop := ∃ (xs : List Int) (i : Nat) (v s : Int), l = [.lst (xs.map DV.int), .int i, .int v, .int s]
theorem deck_ok (ns : List Int) (hl : ns.length ≤ 1000) : ∃ l, Deck l ∧ r_ldeck [.val (.scr (ns.map .int))] = .ok (.lst l) [.val (.scr (ns.map .int))] := by
  refine ⟨_, ⟨ns, 0, 0, 7, rfl⟩, ?_⟩
  have g : (ns.map DV.int).length ≤ 10000000 := by simp; omega
  simp only [Int.ofNat_zero]
  generalize ns.map DV.int = X at *
  simp [r_ldeck, b_ldeck, g]
theorem draw_ok {l : List DV} {most : Int} (h : Deck l) (h1 : 1 ≤ most) (h2 : most ≤ 1000000) : ∃ r l', Deck l' ∧ 0 ≤ r ∧ r < most ∧ r_ldraw [.lst l, .val (.int most)] = .ok (.val (.int r)) [.lst l', .val (.int most)] := by
  obtain ⟨xs, i, v, s, rfl⟩ := h
  have m0 : ¬ most = 0 := by omega
  have m1 : most.natAbs < 1073741824 := by omega
  have mp : 0 < most := by omega
  by_cases c : most ≤ v
  · refine ⟨v.fmod most, _, ⟨xs, i, v.fdiv most, s, rfl⟩, Int.fmod_nonneg_of_pos v mp, Int.fmod_lt_of_pos v mp, ?_⟩
    generalize xs.map DV.int = X at *
    simp [r_ldraw, b_ldraw, c, m0, m1]
  · have hc : ∃ cell : Int, ((i : Int) < (xs.map DV.int).length → atI (xs.map DV.int) (i : Int) = some (.int cell)) ∧ (¬ (i : Int) < (xs.map DV.int).length → cell = 0) := by
      by_cases hi : i < xs.length
      · refine ⟨xs[i], fun _ => ?_, fun z => absurd (by simp; omega) z⟩
        rw [atI_n, List.getElem?_map, List.getElem?_eq_getElem hi]
        rfl
      · exact ⟨0, fun z => absurd z (by simp; omega), fun _ => rfl⟩
    obtain ⟨cell, hc1, hc2⟩ := hc
    have fin : ∀ (X : List DV), X = xs.map DV.int → ∃ r l', Deck l' ∧ 0 ≤ r ∧ r < most ∧ r_ldraw [.lst [.lst X, .int i, .int v, .int s], .val (.int most)] = .ok (.val (.int r)) [.lst l', .val (.int most)] := by
      intro X hX
      rw [← hX] at hc1 hc2
      have key : ∀ P : Prop, ((i : Int) < (X.length : Int) → P) → (¬ (i : Int) < (X.length : Int) → P) → P := fun P a b => by
        by_cases hi : (i : Int) < (X.length : Int)
        · exact a hi
        · exact b hi
      have i1 : (i : Int) + 1 = ((i + 1 : Nat) : Int) := by omega
      by_cases big : (1000000000000000000 : Int) ≤ cell
      · refine ⟨cell.fmod most, [.lst X, .int ((i : Int) + 1), .int (cell.fdiv most), .int s], ⟨xs, i + 1, _, _, by rw [hX, i1]⟩, Int.fmod_nonneg_of_pos _ mp, Int.fmod_lt_of_pos _ mp, ?_⟩
        refine key _ (fun hi => ?_) (fun hi => ?_)
        · have a := hc1 hi
          simp [r_ldraw, b_ldraw, c, m0, m1, hi, a, big]
        · have a := hc2 hi
          omega
      · refine ⟨(((((s * 48271 + cell * 69621 + ((i : Int) + 1) * 911).fmod 2147483647) * 48271 + 12345).fmod 2147483647).fdiv 64).fmod most, [.lst X, .int ((i : Int) + 1), .int 0, .int ((((s * 48271 + cell * 69621 + ((i : Int) + 1) * 911).fmod 2147483647) * 48271 + 12345).fmod 2147483647)], ⟨xs, i + 1, _, _, by rw [hX, i1]⟩, Int.fmod_nonneg_of_pos _ mp, Int.fmod_lt_of_pos _ mp, ?_⟩
        refine key _ (fun hi => ?_) (fun hi => ?_)
        · have a := hc1 hi
          simp [r_ldraw, b_ldraw, c, m0, m1, hi, a, big]
        · have a := hc2 hi
          subst a
          simp [r_ldraw, b_ldraw, c, m0, m1, hi]
    exact fin _ rfl
/-! equal data -/
theorem lsame_step {g : FM} {d : DV} {xs : List DV} {m1 m2 : MV} {tl : Option MV} (hd : (d = .lst xs ∨ d = .tup xs)) (h1 : m1.view = d) (h2 : m2.view = d) (hg : ∀ x ∈ xs, g [.val x, .val x] = .ok (.val (.bl true)) [.val x, .val x]) :
    ∃ s, loop (.nm 2) (l_lsame_1 g) (ups 0 (xs.length : Int)) [some m1, some m2, tl] = .nx s ∧ ∃ y, s = [some m1, some m2, y] := same1_step (g := g) hd h1 h2 hg
theorem lsame_go (k : Nat) (ih : ∀ (n : Nat) (d : DV) (m1 m2 : MV), n ≤ 64 → n < k → shp n d = true → m1.view = d → m2.view = d → r_lsame k [m1, m2] = .ok (.val (.bl true)) [m1, m2]) (n : Nat) (d : DV) (m1 m2 : MV) (h64 : n ≤ 64) (h : n < k + 1) (hs : shp n d = true) (h1 : m1.view = d) (h2 : m2.view = d) :
    r_lsame (k + 1) [m1, m2] = .ok (.val (.bl true)) [m1, m2] := by
  have er := eqD_refl h64 hs
  cases d with
  | non => simp [r_lsame, b_lsame, h1, h2, tyOf, subTy, er]
  | bl b => simp [r_lsame, b_lsame, h1, h2, tyOf, subTy, er]
  | int b => simp [r_lsame, b_lsame, h1, h2, tyOf, subTy, er]
  | str b => simp [r_lsame, b_lsame, h1, h2, tyOf, subTy, er]
  | scr b => cases n <;> cases hs
  | ty b => cases n <;> cases hs
  | obj _ _ _ => cases n <;> cases hs
  | xcp _ _ _ _ => cases n <;> cases hs
  | dct _ _ => cases n <;> cases hs
  | tup xs =>
    cases n with
    | zero => cases hs
    | succ n =>
      rw [shp, Bool.and_eq_true, decide_eq_true_eq, List.all_eq_true] at hs
      obtain ⟨s, e, y, rfl⟩ := lsame_step (g := r_lsame k) (tl := none) (.inr rfl) h1 h2 fun x hx => ih n x _ _ (by omega) (by omega) (hs.2 x hx) rfl rfl
      have hl : (xs.length : Int) ≤ 4000000000 := by omega
      simp [r_lsame, b_lsame, h1, h2, tyOf, subTy, er, hl, e]
  | lst xs =>
    cases n with
    | zero => cases hs
    | succ n =>
      rw [shp, Bool.and_eq_true, decide_eq_true_eq, List.all_eq_true] at hs
      obtain ⟨s, e, y, rfl⟩ := lsame_step (g := r_lsame k) (tl := none) (.inl rfl) h1 h2 fun x hx => ih n x _ _ (by omega) (by omega) (hs.2 x hx) rfl rfl
      have hl : (xs.length : Int) ≤ 4000000000 := by omega
      simp [r_lsame, b_lsame, h1, h2, tyOf, subTy, er, hl, e]
theorem lsame_ok (k : Nat) : ∀ (n : Nat) (d : DV) (m1 m2 : MV), n ≤ 64 → n < k → shp n d = true → m1.view = d → m2.view = d → r_lsame k [m1, m2] = .ok (.val (.bl true)) [m1, m2] := by
  induction k with
  | zero => intro n d m1 m2 _ h; exact absurd h (Nat.not_lt_zero _)
  | succ k ih => exact lsame_go k ih
/-! rows of cells -/
theorem lrow_ok {l : List DV} {most : Int} (h : Deck l) (h1 : 1 ≤ most) (h2 : most ≤ 1000) : ∃ (row : List Int) (l' : List DV), Deck l' ∧ 1 ≤ row.length ∧ (row.length : Int) ≤ most ∧ (∀ c ∈ row, 0 ≤ c ∧ c ≤ 7) ∧ r_lrow [.lst l, .val (.int most)] = .ok (.lst (row.map DV.int)) [.lst l', .val (.int most)] := by
  obtain ⟨n, l1, hd, n0, n1, e1⟩ := draw_ok h h1 (by omega)
  obtain ⟨acc, s, e, row, l2, hd2, hrow, hacc, hl, rfl⟩ := lcl_inv (p := .nm 2) (c := T.yes) (m := m_lrow_1) (ws := [2]) (fun k acc s => ∃ (row : List Int) (l2 : List DV), Deck l2 ∧ (∀ c ∈ row, 0 ≤ c ∧ c ≤ 7) ∧ acc = row.map DV.int ∧ row.length = k ∧ s = [some (.lst l2), some (.val (.int most)), none]) (ups 0 (1 + n)) 0 []
    [some (.lst l1), some (.val (.int most)), none] ⟨[], l1, hd, by simp, rfl, rfl, rfl⟩ (by
    rintro i d acc s hd' ⟨row, l2, hd2, hrow, rfl, hl, rfl⟩
    obtain ⟨rfl, hi⟩ := ups_get hd'
    obtain ⟨r, l3, hd3, r0, r1, e3⟩ := draw_ok (most := 6) hd2 (by omega) (by omega)
    obtain ⟨c, hat, hc⟩ : ∃ c : Int, atI [DV.int 0, .int 0, .int 1, .int 2, .int 3, .int 7] r = some (.int c) ∧ 0 ≤ c ∧ c ≤ 7 := by
      have : r = 0 ∨ r = 1 ∨ r = 2 ∨ r = 3 ∨ r = 4 ∨ r = 5 := by omega
      rcases this with rfl | rfl | rfl | rfl | rfl | rfl
      · exact ⟨0, by simp, by omega⟩
      · exact ⟨0, by simp, by omega⟩
      · exact ⟨1, by simp, by omega⟩
      · exact ⟨2, by simp, by omega⟩
      · exact ⟨3, by simp, by omega⟩
      · exact ⟨7, by simp, by omega⟩
    refine ⟨[some (.lst l2), some (.val (.int most)), some (.val (.int ((0 : Int) + i)))], by simp, .inl ⟨[some (.lst l2), some (.val (.int most)), some (.val (.int ((0 : Int) + i)))], .tmp (.val (.int c)), [some (.lst l3), some (.val (.int most)), some (.val (.int ((0 : Int) + i)))], .int c, [some (.lst l3), some (.val (.int most)), some (.val (.int ((0 : Int) + i)))], rfl, by simp [m_lrow_1, e3, hat], by simp, row ++ [c], l3, hd3, ?_, by simp, by simp; omega, by simp⟩⟩
    intro x hx
    rcases List.mem_append.mp hx with hx | hx
    · exact hrow x hx
    · simp at hx; subst hx; exact hc)
  rw [ups_len, Nat.zero_add] at hl
  refine ⟨row, l2, hd2, by omega, by omega, hrow, ?_⟩
  subst hacc
  have g : 1 + n ≤ 4000000000 := by omega
  have g2 : 0 ≤ 1 + n := by omega
  have g4 : 1 + n ≤ 10000000 := by omega
  have g3 : (row.map DV.int).length ≤ 10000000 := by simp; omega
  generalize row.map DV.int = R at *
  simp [r_lrow, b_lrow, e1, g, g2, g3, g4, e]
end Sy
namespace Sy
open PySem PySem.Spec PyProof.Rows L2
/-! ### the shapes that are drawn -/
def mrow (k : Int) (b : Bool) : List Int := if b then [k, 7] else [k]
def mD (k : Int) (b : Bool) : List DV := (mrow k b).map DV.int
@[simp] theorem mD_t {k : Int} : mD k true = [.int k, .int 7] := rfl
@[simp] theorem mD_f {k : Int} : mD k false = [.int k] := rfl
abbrev rowsD (g : Nat → Bool) : List DV := [.lst (mD 40 (g 0)), .lst (mD 41 (g 1)), .lst (mD 42 (g 2)), .lst (mD 43 (g 3)), .lst (mD 44 (g 4)), .lst (mD 45 (g 5)), .lst (mD 46 (g 6)), .lst (mD 47 (g 7)), .lst (mD 48 (g 7)), .lst (mD 49 (g 9))]
abbrev madeD (w : Int) (g : Nat → Bool) : List DV := [.int w, .lst (rowsD g)]
theorem cut1 {α : Type} {xs : List α} : cutL xs none (some 1) = xs.take 1 := cutL_take (n := 1)
theorem cut2 {α : Type} {xs : List α} : cutL xs none (some 2) = xs.take 2 := cutL_take (n := 2)
theorem lshape_ok {l : List DV} (h : Deck l) : ∃ (w : Int) (g : Nat → Bool) (l' : List DV), Deck l' ∧ 8 ≤ w ∧ w ≤ 11 ∧ r_lshape [.lst l] = .ok (.lst (madeD w g)) [.lst l'] := by
  obtain ⟨w, l1, hd, w0, w1, e1⟩ := draw_ok (most := 4) h (by omega) (by omega)
  obtain ⟨acc, s, e, g, l2, hd2, hacc, rfl⟩ := lcl_inv (p := .nm 3) (c := T.yes) (m := m_lshape_1) (ws := [3]) (fun k acc s => ∃ (g : Nat → Bool) (l2 : List DV), Deck l2 ∧ acc = (List.range k).map (fun (j : Nat) => DV.lst (mD (40 + (j : Int)) (g j))) ∧ s = [some (.lst l2), some (.val (.int (8 + w))), none, none]) (ups 0 10) 0 []
    [some (.lst l1), some (.val (.int (8 + w))), none, none] ⟨fun _ => false, l1, hd, rfl, rfl⟩ (by
    rintro i d acc s hd' ⟨g, l2, hd2, rfl, rfl⟩
    obtain ⟨rfl, hi⟩ := ups_get hd'
    obtain ⟨r, l3, hd3, r0, r1, e3⟩ := draw_ok (most := 2) hd2 (by omega) (by omega)
    obtain ⟨b, hb⟩ : ∃ b : Bool, cutL [DV.int (40 + (i : Int)), DV.int 7] none (some (1 + r)) = mD (40 + (i : Int)) b := by
      have : r = 0 ∨ r = 1 := by omega
      rcases this with rfl | rfl
      · exact ⟨false, by simpa using (cut1 (xs := [DV.int (40 + (i : Int)), DV.int 7]))⟩
      · exact ⟨true, by simpa using (cut2 (xs := [DV.int (40 + (i : Int)), DV.int 7]))⟩
    refine ⟨[some (.lst l2), some (.val (.int (8 + w))), none, some (.val (.int ((0 : Int) + i)))], by simp, .inl ⟨_, .tmp (.lst (mD (40 + (i : Int)) b)), [some (.lst l3), some (.val (.int (8 + w))), none, some (.val (.int ((0 : Int) + i)))], .lst (mD (40 + (i : Int)) b), [some (.lst l3), some (.val (.int (8 + w))), none, some (.val (.int ((0 : Int) + i)))], rfl, by simp [m_lshape_1, e3, hb], by simp, fun j => if j = i then b else g j, l3, hd3, ?_, by simp⟩⟩
    rw [Nat.zero_add, List.range_succ, List.map_append]
    congr 1
    · refine List.map_congr_left fun j hj => ?_
      have : j < i := by simpa using hj
      have hn : ¬ j = i := by omega
      simp only [if_neg hn]
    · simp)
  have hacc : acc = [.lst (mD 40 (g 0)), .lst (mD 41 (g 1)), .lst (mD 42 (g 2)), .lst (mD 43 (g 3)), .lst (mD 44 (g 4)), .lst (mD 45 (g 5)), .lst (mD 46 (g 6)), .lst (mD 47 (g 7)), .lst (mD 48 (g 8)), .lst (mD 49 (g 9))] := hacc
  subst hacc
  refine ⟨8 + w, g, l2, hd2, by omega, by omega, ?_⟩
  have hc : cutL [DV.int 48, DV.int 7] none (some ((mD 47 (g 7)).length : Int)) = mD 48 (g 7) := by
    cases g 7
    · exact cut1 (xs := [DV.int 48, DV.int 7])
    · exact cut2 (xs := [DV.int 48, DV.int 7])
  simp [r_lshape, b_lshape, e1, e, hc]
/-- the marks -/
abbrev mkN : List Str := ["head", "par", "depths", "note", "stop", "on", "joined", "number"]
abbrev depD (g : Nat → Bool) : List DV := [.tup (mD 42 (g 2)), .tup (mD 43 (g 3)), .tup (mD 44 (g 4))]
abbrev mkV (g : Nat → Bool) : List DV := [.tup (mD 40 (g 0)), .tup (mD 41 (g 1)), .lst (depD g), .tup (mD 45 (g 5)), .tup (mD 46 (g 6)), .tup (mD 47 (g 7)), .tup (mD 48 (g 7)), .tup (mD 49 (g 9))]
abbrev shN : List Str := ["width", "height", "size", "marks"]
abbrev shV (C : Addr) (w : Int) (g : Nat → Bool) : List DV := [.int w, .int 4, .int 10, .obj C mkN (mkV g)]
abbrev shD (C D : Addr) (w : Int) (g : Nat → Bool) : DV := .obj D shN (shV C w g)
def toTup : DV → DV
  | .lst xs => .tup xs
  | d => d
section
variable {C D : Addr} {w : Int} {g : Nat → Bool}
theorem mk_lcl (b : Sl) (hb : b.length = 10) (h9 : b[9]? = some none) (ds : List DV) (h : ∀ d ∈ ds, ∃ xs, d = .lst xs ∨ d = .tup xs) : lcl (.nm 9) T.yes m_mkinit_1 [9] ds [] b = .ok (ds.map toTup) b := by
  have q := lcl_read (i := 9) (m := m_mkinit_1) (b := b) toTup ds [] (by omega) h9 (by
    intro d hd
    match b, hb with
    | [b0, b1, b2, b3, b4, b5, b6, b7, b8, b9], _ =>
      obtain ⟨xs, rfl | rfl⟩ := h d hd
      · exact ⟨.val (.tup xs), by simp [m_mkinit_1], rfl⟩
      · exact ⟨.val (.tup xs), by simp [m_mkinit_1], rfl⟩)
  rw [q, List.nil_append]
theorem mkinit_l : r_mkinit C D [.obj C [] [], .val (.lst (mD 40 (g 0))), .val (.lst (mD 41 (g 1))), .lst [.lst (mD 42 (g 2)), .lst (mD 43 (g 3)), .lst (mD 44 (g 4))], .val (.lst (mD 45 (g 5))), .val (.lst (mD 46 (g 6))), .val (.lst (mD 47 (g 7))), .val (.lst (mD 48 (g 7))), .val (.lst (mD 49 (g 9)))] =
    .ok (.val .non) [.obj C mkN (mkV g), .val (.lst (mD 40 (g 0))), .val (.lst (mD 41 (g 1))), .val (.lst [.lst (mD 42 (g 2)), .lst (mD 43 (g 3)), .lst (mD 44 (g 4))]), .val (.lst (mD 45 (g 5))), .val (.lst (mD 46 (g 6))), .val (.lst (mD 47 (g 7))), .val (.lst (mD 48 (g 7))), .val (.lst (mD 49 (g 9)))] := by
  have q := fun b hb h9 => mk_lcl b hb h9 [.lst (mD 42 (g 2)), .lst (mD 43 (g 3)), .lst (mD 44 (g 4))] (by intro d hd; simp at hd; rcases hd with rfl | rfl | rfl <;> exact ⟨_, .inl rfl⟩)
  simp [toTup] at q
  simp [r_mkinit, b_mkinit, q]
theorem mkinit_t : r_mkinit C D [.obj C [] [], .val (.tup (mD 40 (g 0))), .val (.tup (mD 41 (g 1))), .val (.lst (depD g)), .val (.tup (mD 45 (g 5))), .val (.tup (mD 46 (g 6))), .val (.tup (mD 47 (g 7))), .val (.tup (mD 48 (g 7))), .val (.tup (mD 49 (g 9)))] =
    .ok (.val .non) [.obj C mkN (mkV g), .val (.tup (mD 40 (g 0))), .val (.tup (mD 41 (g 1))), .val (.lst (depD g)), .val (.tup (mD 45 (g 5))), .val (.tup (mD 46 (g 6))), .val (.tup (mD 47 (g 7))), .val (.tup (mD 48 (g 7))), .val (.tup (mD 49 (g 9)))] := by
  have q := fun b hb h9 => mk_lcl b hb h9 (depD g) (by intro d hd; simp at hd; rcases hd with rfl | rfl | rfl <;> exact ⟨_, .inr rfl⟩)
  simp [toTup] at q
  simp [r_mkinit, b_mkinit, q]
/-! they are right -/
abbrev keysG (g : Nat → Bool) : List (Int × Bool) := [(40, g 0), (41, g 1), (45, g 5), (46, g 6), (47, g 7), (48, g 7), (49, g 9), (42, g 2), (43, g 3), (44, g 4)]
def tupM (p : Int × Bool) : DV := .tup (mD p.1 p.2)
theorem allm_ok : r_allm C D [.obj C mkN (mkV g)] = .ok (.lst ((keysG g).map tupM)) [.obj C mkN (mkV g)] := by
  have z : 10 ≤ sizeLine := le_size (by omega)
  simp [r_allm, b_allm, tupM, z]
theorem ismk_ok {p : Int × Bool} (h0 : 1 ≤ p.1) (h1 : p.1 ≤ 63) : r_ismk [.val (tupM p)] = .ok (.val (.bl true)) [.val (tupM p)] := by
  obtain ⟨k, b⟩ := p
  simp only at h0 h1
  have hk : ¬ k = 0 := by omega
  have hk0 : 0 ≤ k := by omega
  have q := lcl_map (p := .nm 1) (m := m_ismk_1) (ws := [1]) (b := [some (.val (.tup (mD k b))), none]) (fun _ => .bl true) (mD k b) [] (by
    intro d hd
    obtain ⟨x, hx, rfl⟩ := List.mem_map.mp hd
    have hx2 : 0 ≤ x ∧ x ≤ 63 := by
      cases b <;> simp [mrow] at hx <;> omega
    obtain ⟨x0, x1⟩ := hx2
    exact ⟨[some (.val (.tup (mD k b))), some (.val (.int x))], .tmp (.val (.bl true)), [some (.val (.tup (mD k b))), some (.val (.int x))], [some (.val (.tup (mD k b))), some (.val (.int x))], by simp, by simp [m_ismk_1, x0, x1], by simp, by simp⟩)
  rw [List.nil_append] at q
  have hall : allD [.lst ((mD k b).map fun _ => DV.bl true)] = bl true := by
    cases b
    · exact allD_bls (bs := [true])
    · exact allD_bls (bs := [true, true])
  have a0 : atI (mD k b) 0 = some (.int k) := by cases b <;> simp
  have hl1 : (1 : Int) ≤ ((mD k b).length : Int) := by cases b <;> simp
  have hl2 : ((mD k b).length : Int) ≤ 2 := by cases b <;> simp
  have hl3 : (mD k b).length ≤ 10000000 := by cases b <;> simp
  generalize (mD k b).map (fun _ => DV.bl true) = A at *
  simp only [tupM]
  generalize mD k b = T at *
  simp [r_ismk, b_ismk, q, hall, a0, hl1, hl2, hl3, hk]
theorem num_mem {xs : List DV} {d : DV} (h : d ∈ numbered xs) : ∃ (n : Nat) (x : DV), xs[n]? = some x ∧ d = .tup [.int n, x] := by
  unfold numbered at h
  obtain ⟨n, hn, rfl⟩ := List.mem_map.mp h
  have hn : n < xs.length := by simpa using hn
  exact ⟨n, xs[n], List.getElem?_eq_getElem hn, by simp [List.getD_eq_getElem?_getD, hn]⟩
theorem num_get {xs : List DV} {i : Nat} {d : DV} (h : (numbered xs)[i]? = some d) : ∃ x, xs[i]? = some x ∧ d = .tup [.int i, x] := by
  unfold numbered at h
  rw [List.getElem?_map] at h
  by_cases hi : i < xs.length
  · rw [List.getElem?_range hi] at h
    simp only [Option.map_some, Option.some.injEq] at h
    subst h
    exact ⟨xs[i], List.getElem?_eq_getElem hi, by simp [List.getD_eq_getElem?_getD, hi]⟩
  · rw [List.getElem?_eq_none (by simpa using hi)] at h
    simp at h
theorem beg_ne {p q : Int × Bool} (h : p.1 ≠ q.1) : eqD (.tup ((mD p.1 p.2).take (mD q.1 q.2).length)) (.tup (mD q.1 q.2)) = bl false := by
  obtain ⟨a, x⟩ := p
  obtain ⟨b, y⟩ := q
  simp only at h ⊢
  have e1 : (mD a x).take (mD b y).length = ((mrow a x).take (mrow b y).length).map DV.int := by unfold mD; rw [List.map_take, List.length_map]
  rw [e1]
  unfold mD
  rw [eqD_tints (by cases x <;> cases y <;> simp [mrow]) (by cases x <;> cases y <;> simp [mrow])]
  congr 1
  rw [decide_eq_false]
  intro z
  cases x <;> cases y <;> simp [mrow] at z <;> omega
def neP (i : Int) : DV → Bool
  | .tup (.int n :: _) => !decide (n = i)
  | _ => false
theorem false_any : ∀ (l : List DV), blsOf (l.map fun _ => DV.bl false) = some (l.map fun _ => false)
  | [] => rfl
  | d :: l => by simp [blsOf, false_any l]
theorem right_in (ks : List (Int × Bool)) (hk : (ks.map (·.1)).Nodup) (i : Nat) (p : Int × Bool) (hi : ks[i]? = some p) (s0 s1 : Option MV) : lcl (.tp [.nm 4, .nm 5]) c_right_1 m_right_2 [4, 5] (numbered (ks.map tupM)) [] [s0, s1, some (.val (.int i)), some (.val (tupM p)), none, none] =
    .ok (((numbered (ks.map tupM)).filter (neP i)).map fun _ => .bl false) [s0, s1, some (.val (.int i)), some (.val (tupM p)), none, none] := by
  have q := lcl_filter (p := .tp [.nm 4, .nm 5]) (c := c_right_1) (m := m_right_2) (ws := [4, 5]) (b := [s0, s1, some (.val (.int i)), some (.val (tupM p)), none, none]) (neP i) (fun _ => .bl false) (numbered (ks.map tupM)) [] (by
    intro d hd
    obtain ⟨n, x, hx, rfl⟩ := num_mem hd
    rw [List.getElem?_map] at hx
    obtain ⟨r, hr, rfl⟩ := map_some hx
    have hne : (n : Int) ≠ i → eqD (.tup ((mD r.1 r.2).take (mD p.1 p.2).length)) (.tup (mD p.1 p.2)) = bl false := fun hn => beg_ne fun z => hn (by
      have l1 := (List.getElem?_eq_some_iff.mp hr).1
      have l2 := (List.getElem?_eq_some_iff.mp hi).1
      have e1 : (ks.map (·.1))[n]'(by simpa using l1) = (ks.map (·.1))[i]'(by simpa using l2) := by
        rw [List.getElem_map, List.getElem_map, (List.getElem?_eq_some_iff.mp hr).2, (List.getElem?_eq_some_iff.mp hi).2]
        exact z
      have hni : n = i := by
        rcases Nat.lt_trichotomy n i with h | h | h
        · exact absurd e1 (List.pairwise_iff_getElem.mp hk n i (by simpa using l1) (by simpa using l2) h)
        · exact h
        · exact absurd e1.symm (List.pairwise_iff_getElem.mp hk i n (by simpa using l2) (by simpa using l1) h)
      rw [hni])
    simp only [tupM] at hne ⊢
    generalize mD r.1 r.2 = R at *
    generalize mD p.1 p.2 = P at *
    refine ⟨[s0, s1, some (.val (.int i)), some (.val (.tup P)), some (.val (.int n)), some (.val (.tup R))], [s0, s1, some (.val (.int i)), some (.val (.tup P)), some (.val (.int n)), some (.val (.tup R))], .tmp (.val (.bl false)), [s0, s1, some (.val (.int i)), some (.val (.tup P)), some (.val (.int n)), some (.val (.tup R))], [s0, s1, some (.val (.int i)), some (.val (.tup P)), some (.val (.int n)), some (.val (.tup R))], by simp, by simp [c_right_1, neP], by simp, fun hg => ⟨?_, by simp, by simp⟩⟩
    have hn : (n : Int) ≠ i := by simpa [neP] using hg
    simp [m_right_2, hne hn])
  rw [q, List.nil_append]
theorem right_loop (ks : List (Int × Bool)) (hk : (ks.map (·.1)).Nodup) (hl : ks.length ≤ 1000) (s0 : Option MV) (s3 : Option MV) :
    ∃ y2 y3, loop (.tp [.nm 2, .nm 3]) l_right_1 (numbered (ks.map tupM)) [s0, some (.val (.lst (ks.map tupM))), none, s3, none, none] = .nx [s0, some (.val (.lst (ks.map tupM))), y2, y3, none, none] := by
  obtain ⟨s, e, y2, y3, rfl⟩ := loop_inv (p := .tp [.nm 2, .nm 3]) (b := l_right_1) (fun k s => ∃ (y2 y3 : Option MV), s = [s0, some (.val (.lst (ks.map tupM))), y2, y3, none, none]) (numbered (ks.map tupM)) 0
    [s0, some (.val (.lst (ks.map tupM))), none, s3, none, none] ⟨none, s3, rfl⟩ (by
    rintro i d s hd ⟨y2, y3, rfl⟩
    obtain ⟨x, hx, rfl⟩ := num_get hd
    rw [List.getElem?_map] at hx
    obtain ⟨p, hp, rfl⟩ := map_some hx
    have q := right_in ks hk i p hp s0 (some (.val (.lst (ks.map tupM))))
    have ha : anyD [.lst (((numbered (ks.map tupM)).filter (neP i)).map fun _ => DV.bl false)] = bl false := by
      unfold anyD
      simp only [false_any, Option.map_some]
      congr 3
      rw [List.any_map]
      simp
    have g1 : (ks.map tupM).length ≤ 10000000 := by simp; omega
    have g2 : (numbered (ks.map tupM)).length ≤ 10000000 := by unfold numbered; simp; omega
    generalize ((numbered (ks.map tupM)).filter (neP i)).map (fun _ => DV.bl false) = A at *
    refine ⟨[s0, some (.val (.lst (ks.map tupM))), some (.val (.int i)), some (.val (tupM p)), none, none], [s0, some (.val (.lst (ks.map tupM))), some (.val (.int i)), some (.val (tupM p)), none, none], by simp, .inl ?_, _, _, rfl⟩
    generalize ks.map tupM = T at *
    simp [l_right_1, q, ha, g1, g2])
  exact ⟨_, _, e⟩
theorem right_ok : r_right C D [.obj C mkN (mkV g)] = .ok (.val (.bl true)) [.obj C mkN (mkV g)] := by
  have ha := allm_ok (C := C) (D := D) (g := g)
  have hk : ((keysG g).map (·.1)).Nodup := by simp
  obtain ⟨y2, y3, q⟩ := right_loop (keysG g) hk (by simp) (some (.obj C mkN (mkV g))) none
  have q1 := lcl_read (i := 3) (m := m_right_1) (b := [some (.obj C mkN (mkV g)), some (.val (.lst ((keysG g).map tupM))), none, none, none, none]) (fun _ => .bl true) ((keysG g).map tupM) [] (by simp) (by simp) (by
    intro d hd
    obtain ⟨p, hp, rfl⟩ := List.mem_map.mp hd
    have hp2 : 1 ≤ p.1 ∧ p.1 ≤ 63 := by
      simp at hp
      rcases hp with rfl | rfl | rfl | rfl | rfl | rfl | rfl | rfl | rfl | rfl <;> simp
    have hm := ismk_ok hp2.1 hp2.2
    refine ⟨.val (.bl true), ?_, rfl⟩
    generalize tupM p = P at *
    simp [m_right_1, hm])
  rw [List.nil_append] at q1
  have hall : allD [.lst (((keysG g).map tupM).map fun _ => DV.bl true)] = bl true := allD_bls (bs := [true, true, true, true, true, true, true, true, true, true])
  have hlen : (mD 47 (g 7)).length = (mD 48 (g 7)).length := by cases g 7 <;> rfl
  have hl : ((keysG g).map tupM).length ≤ 10000000 := by simp
  have hl2 : ((mD 47 (g 7)).length : Int) = ((mD 48 (g 7)).length : Int) := by rw [hlen]
  generalize ((keysG g).map tupM).map (fun _ => DV.bl true) = A at *
  generalize (keysG g).map tupM = T at *
  simp [r_right, b_right, ha, q1, hall, q, hl, hl2]
theorem shinit_ok (hw : 8 ≤ w) (hw2 : w ≤ 40) : r_shinit C D [.obj D [] [], .val (.int w), .val (.int 4), .val (.int 10), .obj C mkN (mkV g)] = .ok (.val .non) [.obj D shN (shV C w g), .val (.int w), .val (.int 4), .val (.int 10), .obj C mkN (mkV g)] := by
  have h1 := right_ok (C := C) (D := D) (g := g)
  have h2 := mkinit_t (C := C) (D := D) (g := g)
  simp [r_shinit, b_shinit, h1, h2, hw, hw2]
theorem lshaped_ok (hw : 8 ≤ w) (hw2 : w ≤ 40) {m : MV} (hm : IsL m (madeD w g)) : r_lshaped C D [m] = .ok (.obj D shN (shV C w g)) [m] := by
  have h1 := mkinit_l (C := C) (D := D) (g := g)
  have h2 := shinit_ok (C := C) (D := D) (g := g) hw hw2
  have hc : cutL (rowsD g) (some 2) (some 5) = [.lst (mD 42 (g 2)), .lst (mD 43 (g 3)), .lst (mD 44 (g 4))] := cutL_mid (n := 2) (m := 5)
  have hv : m.view = .lst (madeD w g) := by rcases hm with rfl | rfl <;> rfl
  simp [r_lshaped, b_lshaped, hv, hc, h1, h2]
end
end Sy
namespace Sy
open PySem PySem.Spec PyProof.Rows L2
/-! ### lines and the ways in which they begin -/
noncomputable def b_lfol : SM := (S.seq (S.asg 2 (E.lst (A.cons (E.tup (A.cons (E.var 1) (A.cons (E.c (.str "joined")) A.nil))) A.nil)))
    (S.seq (S.ife (T.and (T.val (E.bin eqD (E.bin ixD (E.var 0) (E.var 1)) (E.c (.int 0)))) (T.val (E.bin ltD (E.bin addD (E.var 1) (E.c (.int 1))) (E.app lenD (A.cons (E.var 0) A.nil))))) (S.expr (E.mth appF 2 (A.cons (E.tup (A.cons (E.bin addD (E.var 1) (E.c (.int 1))) (A.cons (E.c (.str "on")) A.nil))) A.nil))) S.nil)
    (S.ret 2 (E.var 2))))
noncomputable def r_lfol : FM := fn 2 1 [2] b_lfol
noncomputable def b_lmark : SM := (S.ret 3 (E.dsel ["first", "on", "joined"] (A.cons (E.app listD (A.cons (E.var 1) A.nil)) (A.cons (E.bin ixD (E.bin ixD (E.var 0) (E.c (.int 1))) (E.c (.int 7))) (A.cons (E.bin ixD (E.bin ixD (E.var 0) (E.c (.int 1))) (E.c (.int 8))) A.nil))) (E.var 2)))
noncomputable def r_lmark : FM := fn 3 0 [] b_lmark
noncomputable def b_begin (C D : Addr) : SM := (S.seq (S.ife (T.val (E.bin eqD (E.var 2) (E.c (.str "first")))) (S.ret 3 (E.app tupleD (A.cons (E.var 1) A.nil))) S.nil)
    (S.seq (S.ife (T.val (E.bin eqD (E.var 2) (E.c (.str "on")))) (S.ret 3 (E.app tupleD (A.cons (E.un (fldD C "on") (E.un (fldD D "marks") (E.var 0))) A.nil))) S.nil)
    (S.ret 3 (E.app tupleD (A.cons (E.un (fldD C "joined") (E.un (fldD D "marks") (E.var 0))) A.nil)))))
noncomputable def r_begin (C D : Addr) : FM := fn 3 0 [] (b_begin C D)
noncomputable def l_wol_1 (C D : Addr) : SM := (S.seq (S.asg 6 (E.call 3 (r_begin C D) (A.cons (E.var 0) (A.cons (E.var 1) (A.cons (E.var 5) A.nil)))))
    (S.ife (T.and (T.val (E.bin eqD (E.slc slD (E.var 3) OP.none (OP.some (E.app lenD (A.cons (E.var 6) A.nil)))) (E.var 6))) (T.val (E.bin gtD (E.app lenD (A.cons (E.var 3) A.nil)) (E.app lenD (A.cons (E.var 6) A.nil))))) (S.ret 4 (E.tup (A.cons (E.var 5) (A.cons (E.slc slD (E.var 3) (OP.some (E.app lenD (A.cons (E.var 6) A.nil))) OP.none) A.nil)))) S.nil))
noncomputable def b_wol (C D : Addr) : SM := (S.seq (S.asg 4 (E.lst (A.cons (E.c (.str "on")) (A.cons (E.c (.str "joined")) A.nil))))
    (S.seq (S.ife (T.val (E.bin eqD (E.var 2) (E.c (.int 0)))) (S.asg 4 (E.lst (A.cons (E.c (.str "first")) A.nil))) S.nil)
    (S.seq (S.forr (I.lst (E.var 4)) (.nm 5) (l_wol_1 C D))
    (S.ret 4 (E.c .non)))))
noncomputable def r_wol (C D : Addr) : FM := fn 4 3 [4, 5, 6] (b_wol C D)
noncomputable def b_lncost (C D : Addr) : SM := (S.ret 2 (E.bin powD (E.bin subD (E.un (fldD D "width") (E.var 0)) (E.app lenD (A.cons (E.var 1) A.nil))) (E.c (.int 2))))
noncomputable def r_lncost (C D : Addr) : FM := fn 2 0 [] (b_lncost C D)
noncomputable def l_costof_1 (C D : Addr) : SM := (S.seq (S.ife (T.val (E.bin ltD (E.var 4) (E.bin subD (E.app lenD (A.cons (E.var 1) A.nil)) (E.c (.int 1))))) (S.aug 2 addI (E.call 2 (r_lncost C D) (A.cons (E.var 0) (A.cons (E.var 5) A.nil)))) S.nil)
    (S.ife (T.and (T.val (E.bin gtD (E.var 4) (E.c (.int 0)))) (T.val (E.bin eqD (E.slc slD (E.var 5) OP.none (OP.some (E.app lenD (A.cons (E.var 3) A.nil)))) (E.var 3)))) (S.aug 2 addI (E.c (.int 50))) S.nil))
noncomputable def b_costof (C D : Addr) : SM := (S.seq (S.asg 2 (E.c (.int 0)))
    (S.seq (S.asg 3 (E.app tupleD (A.cons (E.un (fldD C "joined") (E.un (fldD D "marks") (E.var 0))) A.nil)))
    (S.seq (S.forr (I.enum (A.cons (E.var 1) A.nil)) (.tp [(.nm 4), (.nm 5)]) (l_costof_1 C D))
    (S.ret 2 (E.var 2)))))
noncomputable def r_costof (C D : Addr) : FM := fn 2 4 [2, 3, 4, 5] (b_costof C D)
noncomputable def l_unb_1 (E0 C D : Addr) : SM := (S.seq (S.asg 6 (E.call 4 (r_wol C D) (A.cons (E.var 0) (A.cons (E.var 2) (A.cons (E.var 4) (A.cons (E.var 5) A.nil))))))
    (S.seq (S.ife (T.val (E.bin isD2 (E.var 6) (E.c .non))) (S.raise E0 ["place", "reason"] (A.cons (E.tup (A.cons (E.var 4) A.nil)) (A.cons (E.c (.str "line")) A.nil))) S.nil)
    (S.seq (S.unp (.tp [(.nm 7), (.nm 8)]) (E.var 6))
    (S.seq (S.ife (T.val (E.bin eqD (E.var 7) (E.c (.str "on")))) (S.expr (E.mth appF 3 (A.cons (E.c (.int 0)) A.nil))) S.nil)
    (S.expr (E.mth extF 3 (A.cons (E.var 8) A.nil)))))))
noncomputable def b_unb (E0 C D : Addr) : SM := (S.seq (S.asg 3 (E.lst A.nil))
    (S.seq (S.forr (I.enum (A.cons (E.var 1) A.nil)) (.tp [(.nm 4), (.nm 5)]) (l_unb_1 E0 C D))
    (S.ret 3 (E.var 3))))
noncomputable def r_unb (E0 C D : Addr) : FM := fn 3 6 [3, 4, 5, 6, 7, 8] (b_unb E0 C D)
def unpN : Option Sl → SRes
  | some sl => .nx sl
  | none => .stuck
@[simp] theorem unpN_s {sl : Sl} : unpN (some sl) = .nx sl := rfl
def unpP (p : Pat) : Option (DV × Sl) → SRes
  | some (d, sl) => unpN (bindP p d sl)
  | none => .stuck
@[simp] theorem unpP_s {p : Pat} {d : DV} {sl : Sl} : unpP p (some (d, sl)) = unpN (bindP p d sl) := rfl
def Res.unp (r : Res Op) (p : Pat) : SRes := r.s fun o sl => unpP p (settle1 o sl)
@[simp] theorem Res.unp_ok {o : Op} {sl : Sl} {p : Pat} : (Res.ok o sl).unp p = unpP p (settle1 o sl) := rfl
@[simp] theorem S.unp_eq {p : Pat} {m : EM} {sl : Sl} : S.unp p m sl = (m sl).unp p := by
  unfold S.unp Res.unp unpP unpN
  first | done | (cases m sl <;> rfl)
inductive Way where
  | first | on | joined
  deriving DecidableEq
def Way.s : Way → Str
  | .first => "first"
  | .on => "on"
  | .joined => "joined"
theorem way_ok (w : Way) : PyData.strOk w.s = true := by cases w <;> decide +kernel
theorem way_lit_ne : ¬ (("first" : Str) = "on") ∧ ¬ (("first" : Str) = "joined") ∧ ¬ (("on" : Str) = "first") ∧ ¬ (("on" : Str) = "joined") ∧ ¬ (("joined" : Str) = "first") ∧ ¬ (("joined" : Str) = "on") := by
  refine ⟨?_, ?_, ?_, ?_, ?_, ?_⟩ <;> decide +kernel
theorem way_first (w : Way) : eqD (.str w.s) (.str "first") = bl (decide (w = .first)) := by
  rw [eqD_str (way_ok w) (show PyData.strOk ("first" : Str) = true from way_ok .first)]
  obtain ⟨h1, h2, h3, h4, h5, h6⟩ := way_lit_ne
  cases w <;> simp [Way.s, h3, h5]
theorem way_on (w : Way) : eqD (.str w.s) (.str "on") = bl (decide (w = .on)) := by
  rw [eqD_str (way_ok w) (show PyData.strOk ("on" : Str) = true from way_ok .on)]
  obtain ⟨h1, h2, h3, h4, h5, h6⟩ := way_lit_ne
  cases w <;> simp [Way.s, h1, h6]
theorem way_joined (w : Way) : eqD (.str w.s) (.str "joined") = bl (decide (w = .joined)) := by
  rw [eqD_str (way_ok w) (show PyData.strOk ("joined" : Str) = true from way_ok .joined)]
  obtain ⟨h1, h2, h3, h4, h5, h6⟩ := way_lit_ne
  cases w <;> simp [Way.s, h2, h4]
abbrev IL2 (L : List Int) : List DV := L.map DV.int
def begL (M : List Int) (g : Nat → Bool) : Way → List Int
  | .first => M
  | .on => mrow 47 (g 7)
  | .joined => mrow 48 (g 7)
section
variable {C D E0 : Addr} {w : Int} {g : Nat → Bool} {M : List Int}
theorem begin_ok (C D : Addr) (w : Int) (g : Nat → Bool) (M : List Int) (y : Way) : r_begin C D [.obj D shN (shV C w g), .val (.tup (M.map DV.int)), .val (.str y.s)] = .ok (.val (.tup ((begL M g y).map DV.int))) [.obj D shN (shV C w g), .val (.tup (M.map DV.int)), .val (.str y.s)] := by
  have h1 := way_first y
  have h2 := way_on y
  generalize hM : M.map DV.int = T at *
  cases y with
  | first => simp only [begL, hM]; simp [r_begin, b_begin, h1]
  | on => simp [r_begin, b_begin, h1, h2, begL, mD]
  | joined => simp [r_begin, b_begin, h1, h2, begL, mD]
theorem lmark_ok {m1 : MV} (h1 : IsL m1 (madeD w g)) (hM : M.length ≤ 1000) (y : Way) : r_lmark [m1, .val (.tup (M.map DV.int)), .val (.str y.s)] = .ok (.val (.lst ((begL M g y).map DV.int))) [m1, .val (.tup (M.map DV.int)), .val (.str y.s)] := by
  have hv : m1.view = .lst (madeD w g) := by rcases h1 with rfl | rfl <;> rfl
  have hl : (M.map DV.int).length ≤ 10000000 := by simp; omega
  obtain ⟨n1, n2, n3, n4, n5, n6⟩ := way_lit_ne
  have bq : ∀ {a b : Str}, ¬ a = b → (a == b) = false := fun {a b} h => by simpa using h
  generalize hT : M.map DV.int = T at *
  have a7 : ∀ x : DV, List.lookup (Way.s y) [(("first" : Str), x), ("on", .lst (mD 47 (g 7))), ("joined", .lst (mD 48 (g 7)))] = some (match y with | .first => x | .on => .lst (mD 47 (g 7)) | .joined => .lst (mD 48 (g 7))) := by
    intro x
    cases y <;> simp [Way.s, List.lookup, bq n3, bq n5, bq n6]
  cases y with
  | first => simp only [begL, hT]; simp [r_lmark, b_lmark, hv, hl, a7]
  | on =>
    have hb : (begL M g .on).map DV.int = mD 47 (g 7) := rfl
    rw [hb]
    simp [r_lmark, b_lmark, hv, hl, a7]
  | joined =>
    have hb : (begL M g .joined).map DV.int = mD 48 (g 7) := rfl
    rw [hb]
    simp [r_lmark, b_lmark, hv, hl, a7]
/-- the line begins with the marks of a way, and goes on -/
def fitW (M : List Int) (g : Nat → Bool) (L : List Int) (y : Way) : Bool := decide (L.take (begL M g y).length = begL M g y) && decide ((begL M g y).length < L.length)
def wolW (M : List Int) (g : Nat → Bool) (L : List Int) : List Way → Option (Way × List Int)
  | [] => none
  | y :: ys => if fitW M g L y then some (y, L.drop (begL M g y).length) else wolW M g L ys
def waysN (n : Nat) : List Way := if n = 0 then [.first] else [.on, .joined]
def wolD : Option (Way × List Int) → DV
  | none => .non
  | some (y, P) => .tup [.str y.s, .tup (P.map DV.int)]
theorem beg_len (hM : M.length ≤ 1000) (y : Way) : (begL M g y).length ≤ 1000 := by
  cases y
  · exact hM
  · simp [begL, mrow]; split <;> simp
  · simp [begL, mrow]; split <;> simp
theorem wol_loop (C D : Addr) (w : Int) (g : Nat → Bool) (hM : M.length ≤ 1000) (n : Nat) (L : List Int) (hL : L.length ≤ 1000) (s4 : Option MV) : ∀ (ys : List Way) (x5 x6 : Option MV), ∃ y5 y6,
    loop (.nm 5) (l_wol_1 C D) (ys.map fun y => .str y.s) [some (.obj D shN (shV C w g)), some (.val (.tup (M.map DV.int))), some (.val (.int n)), some (.val (.tup (L.map DV.int))), s4, x5, x6] =
      match wolW M g L ys with
      | none => .nx [some (.obj D shN (shV C w g)), some (.val (.tup (M.map DV.int))), some (.val (.int n)), some (.val (.tup (L.map DV.int))), s4, y5, y6]
      | some r => .ret (.val (wolD (some r))) [some (.obj D shN (shV C w g)), some (.val (.tup (M.map DV.int))), some (.val (.int n)), some (.val (.tup (L.map DV.int))), s4, y5, y6]
  | [], x5, x6 => ⟨x5, x6, rfl⟩
  | y :: ys, x5, x6 => by
    have hb := begin_ok C D w g M y
    have hl := beg_len (g := g) hM y
    have he : eqD (.tup ((L.map DV.int).take (begL M g y).length)) (.tup ((begL M g y).map DV.int)) = bl (decide (L.take (begL M g y).length = begL M g y)) := by
      rw [← List.map_take, eqD_tints (by simp; omega) (by omega)]
    obtain ⟨z5, z6, ih⟩ := wol_loop C D w g hM n L hL s4 ys (some (.val (.str y.s))) (some (.val (.tup ((begL M g y).map DV.int))))
    have hbd : bindP (.nm 5) (.str y.s) [some (.obj D shN (shV C w g)), some (.val (.tup (M.map DV.int))), some (.val (.int n)), some (.val (.tup (L.map DV.int))), s4, x5, x6] = some [some (.obj D shN (shV C w g)), some (.val (.tup (M.map DV.int))), some (.val (.int n)), some (.val (.tup (L.map DV.int))), s4, some (.val (.str y.s)), x6] := by simp
    have hlb : ((begL M g y).map DV.int).length = (begL M g y).length := by simp
    have hlL : (L.map DV.int).length = L.length := by simp
    have hdr : (L.drop (begL M g y).length).map DV.int = (L.map DV.int).drop (begL M g y).length := by rw [List.map_drop]
    rw [List.map_cons]
    unfold wolW
    cases hf : fitW M g L y with
    | true =>
      simp only [if_true]
      refine ⟨some (.val (.str y.s)), some (.val (.tup ((begL M g y).map DV.int))), ?_⟩
      unfold fitW at hf
      rw [Bool.and_eq_true] at hf
      obtain ⟨f1, f2⟩ := hf
      rw [f1] at he
      have f2 : ((begL M g y).length : Int) < (L.length : Int) := by have := of_decide_eq_true f2; omega
      simp only [wolD, hdr]
      generalize hB : (begL M g y).map DV.int = B at *
      generalize M.map DV.int = TM at *
      generalize L.map DV.int = TL at *
      have step : l_wol_1 C D [some (.obj D shN (shV C w g)), some (.val (.tup TM)), some (.val (.int n)), some (.val (.tup TL)), s4, some (.val (.str y.s)), x6] = .ret (.val (.tup [.str y.s, .tup (TL.drop (begL M g y).length)])) [some (.obj D shN (shV C w g)), some (.val (.tup TM)), some (.val (.int n)), some (.val (.tup TL)), s4, some (.val (.str y.s)), some (.val (.tup B))] := by
        simp [l_wol_1, hb, hlb, hlL, he, f2]
      simp only [loop, hbd, step]
    | false =>
      simp only [Bool.false_eq_true, if_false]
      refine ⟨z5, z6, ?_⟩
      unfold fitW at hf
      have hf2 : (decide (L.take (begL M g y).length = begL M g y)) = false ∨ ¬ ((begL M g y).length : Int) < (L.length : Int) := by
        rw [Bool.and_eq_false_iff] at hf
        rcases hf with h | h
        · exact .inl h
        · exact .inr (by have := of_decide_eq_false h; omega)
      rw [← ih]
      generalize hB : (begL M g y).map DV.int = B at *
      generalize M.map DV.int = TM at *
      generalize L.map DV.int = TL at *
      have step : l_wol_1 C D [some (.obj D shN (shV C w g)), some (.val (.tup TM)), some (.val (.int n)), some (.val (.tup TL)), s4, some (.val (.str y.s)), x6] = .nx [some (.obj D shN (shV C w g)), some (.val (.tup TM)), some (.val (.int n)), some (.val (.tup TL)), s4, some (.val (.str y.s)), some (.val (.tup B))] := by
        rcases hf2 with h | h
        · rw [h] at he
          simp [l_wol_1, hb, hlb, he]
        · cases hd : decide (L.take (begL M g y).length = begL M g y) <;> rw [hd] at he <;> simp [l_wol_1, hb, hlb, hlL, he, h]
      simp only [loop, hbd, step]
theorem wol_ok (C D : Addr) (w : Int) (g : Nat → Bool) (hM : M.length ≤ 1000) (n : Nat) (L : List Int) (hL : L.length ≤ 1000) : r_wol C D [.obj D shN (shV C w g), .val (.tup (M.map DV.int)), .val (.int n), .val (.tup (L.map DV.int))] =
    .ok (.val (wolD (wolW M g L (waysN n)))) [.obj D shN (shV C w g), .val (.tup (M.map DV.int)), .val (.int n), .val (.tup (L.map DV.int))] := by
  by_cases hn : n = 0
  · subst hn
    obtain ⟨y5, y6, q⟩ := wol_loop C D w g hM 0 L hL (some (.val (.lst [.str "first"]))) [.first] none none
    have hw : waysN 0 = [.first] := rfl
    rw [hw]
    simp only [Int.ofNat_zero] at q
    have hm : ([Way.first].map fun y => DV.str y.s) = [.str "first"] := rfl
    rw [hm] at q
    generalize wolW M g L [.first] = R at *
    generalize M.map DV.int = TM at *
    generalize L.map DV.int = TL at *
    cases R with
    | none => simp only at q; simp [r_wol, b_wol, q, wolD]
    | some r => simp only at q; simp [r_wol, b_wol, q]
  · obtain ⟨y5, y6, q⟩ := wol_loop C D w g hM n L hL (some (.val (.lst [.str "on", .str "joined"]))) [.on, .joined] none none
    have hw : waysN n = [.on, .joined] := by unfold waysN; rw [if_neg hn]
    rw [hw]
    have hm : ([Way.on, Way.joined].map fun y => DV.str y.s) = [.str "on", .str "joined"] := rfl
    rw [hm] at q
    have hn' : ¬ (n : Int) = 0 := by omega
    generalize wolW M g L [.on, .joined] = R at *
    generalize M.map DV.int = TM at *
    generalize L.map DV.int = TL at *
    cases R with
    | none => simp only at q; simp [r_wol, b_wol, q, wolD, hn]
    | some r => simp only at q; simp [r_wol, b_wol, q, hn]
/-! lines put together -/
def lnD (Ls : List (List Int)) : List DV := Ls.map fun L => .tup (L.map DV.int)
def onW (y : Way) : List Int := if y = .on then [0] else []
def unbF (M : List Int) (g : Nat → Bool) : Nat → List (List Int) → List Int → Except Nat (List Int)
  | _, [], acc => .ok acc
  | n, L :: Ls, acc => match wolW M g L (waysN n) with
    | none => .error n
    | some (y, P) => unbF M g (n + 1) Ls (acc ++ onW y ++ P)
theorem wolW_drop {L : List Int} : ∀ {ys : List Way} {y : Way} {P : List Int}, wolW M g L ys = some (y, P) → P.length ≤ L.length
  | [], _, _, h => by cases h
  | z :: ys, y, P, h => by
    unfold wolW at h
    split at h
    · cases h; simp
    · exact wolW_drop h
theorem unb_loop (E0 C D : Addr) (w : Int) (g : Nat → Bool) (hM : M.length ≤ 1000) (s1 : Option MV) : ∀ (Ls : List (List Int)) (n : Nat) (acc : List Int) (x4 x5 x6 x7 x8 : Option MV), (∀ L ∈ Ls, L.length ≤ 1000) → acc.length + 1001 * Ls.length ≤ 10000000 → ∃ y3 y4 y5 y6 y7 y8,
    loop (.tp [.nm 4, .nm 5]) (l_unb_1 E0 C D) ((List.range' n Ls.length).zipWith (fun (k : Nat) (d : DV) => .tup [.int k, d]) (lnD Ls)) [some (.obj D shN (shV C w g)), s1, some (.val (.tup (M.map DV.int))), some (.lst (acc.map DV.int)), x4, x5, x6, x7, x8] =
      match unbF M g n Ls acc with
      | .ok R => .nx [some (.obj D shN (shV C w g)), s1, some (.val (.tup (M.map DV.int))), some (.lst (R.map DV.int)), y4, y5, y6, y7, y8]
      | .error k => .exc ⟨E0, ["reason", "place"], [.str "line", .tup [.int k]]⟩ [some (.obj D shN (shV C w g)), s1, some (.val (.tup (M.map DV.int))), y3, y4, y5, y6, y7, y8]
  | [], n, acc, x4, x5, x6, x7, x8, _, _ => ⟨none, x4, x5, x6, x7, x8, rfl⟩
  | L :: Ls, n, acc, x4, x5, x6, x7, x8, hL, hl => by
    have hL0 := hL L (by simp)
    have hw := wol_ok C D w g hM n L hL0
    have hcons : (List.range' n (L :: Ls).length).zipWith (fun (k : Nat) (d : DV) => DV.tup [.int k, d]) (lnD (L :: Ls)) = .tup [.int n, .tup (L.map DV.int)] :: (List.range' (n + 1) Ls.length).zipWith (fun (k : Nat) (d : DV) => DV.tup [.int k, d]) (lnD Ls) := by
      rw [List.length_cons, List.range'_succ]
      rfl
    rw [hcons]
    have hbd : bindP (.tp [.nm 4, .nm 5]) (.tup [.int n, .tup (L.map DV.int)]) [some (.obj D shN (shV C w g)), s1, some (.val (.tup (M.map DV.int))), some (.lst (acc.map DV.int)), x4, x5, x6, x7, x8] = some [some (.obj D shN (shV C w g)), s1, some (.val (.tup (M.map DV.int))), some (.lst (acc.map DV.int)), some (.val (.int n)), some (.val (.tup (L.map DV.int))), x6, x7, x8] := by simp
    unfold unbF
    cases hR : wolW M g L (waysN n) with
    | none =>
      rw [hR] at hw
      simp only [wolD] at hw
      refine ⟨some (.lst (acc.map DV.int)), some (.val (.int n)), some (.val (.tup (L.map DV.int))), some (.val .non), x7, x8, ?_⟩
      generalize M.map DV.int = TM at *
      generalize L.map DV.int = TL at *
      generalize acc.map DV.int = TA at *
      have step : l_unb_1 E0 C D [some (.obj D shN (shV C w g)), s1, some (.val (.tup TM)), some (.lst TA), some (.val (.int n)), some (.val (.tup TL)), x6, x7, x8] = .exc ⟨E0, ["reason", "place"], [.str "line", .tup [.int n]]⟩ [some (.obj D shN (shV C w g)), s1, some (.val (.tup TM)), some (.lst TA), some (.val (.int n)), some (.val (.tup TL)), some (.val .non), x7, x8] := by
        simp [l_unb_1, hw]
      simp only [loop, hbd, step]
    | some r =>
      obtain ⟨y, P⟩ := r
      rw [hR] at hw
      have hP := wolW_drop hR
      simp only [wolD] at hw
      have hon := way_on y
      have ho : (onW y).length ≤ 1 := by unfold onW; split <;> simp
      obtain ⟨y3, y4, y5, y6, y7, y8, ih⟩ := unb_loop E0 C D w g hM s1 Ls (n + 1) (acc ++ onW y ++ P) (some (.val (.int n))) (some (.val (.tup (L.map DV.int)))) (some (.val (.tup [.str y.s, .tup (P.map DV.int)]))) (some (.val (.str y.s))) (some (.val (.tup (P.map DV.int)))) (fun z hz => hL z (by simp [hz])) (by simp at hl ⊢; omega)
      refine ⟨y3, y4, y5, y6, y7, y8, ?_⟩
      simp only
      rw [← ih]
      have hap : (acc ++ onW y ++ P).map DV.int = acc.map DV.int ++ (onW y).map DV.int ++ P.map DV.int := by simp
      rw [hap]
      have g1 : (acc.map DV.int).length ≤ 10000000 := by simp at hl ⊢; omega
      have g2 : (acc.map DV.int).length + 1 + (P.map DV.int).length ≤ 10000000 := by simp at hl ⊢; omega
      have g3 : (acc.map DV.int).length + (P.map DV.int).length ≤ 10000000 := by omega
      generalize M.map DV.int = TM at *
      generalize L.map DV.int = TL at *
      generalize acc.map DV.int = TA at *
      generalize P.map DV.int = TP at *
      have step : l_unb_1 E0 C D [some (.obj D shN (shV C w g)), s1, some (.val (.tup TM)), some (.lst TA), some (.val (.int n)), some (.val (.tup TL)), x6, x7, x8] = .nx [some (.obj D shN (shV C w g)), s1, some (.val (.tup TM)), some (.lst (TA ++ (onW y).map DV.int ++ TP)), some (.val (.int n)), some (.val (.tup TL)), some (.val (.tup [.str y.s, .tup TP])), some (.val (.str y.s)), some (.val (.tup TP))] := by
        by_cases hy : y = .on
        · rw [decide_eq_true hy] at hon
          have ho1 : (onW y).map DV.int = [.int 0] := by simp [onW, hy]
          rw [ho1]
          simp [l_unb_1, hw, hon, g1, g2]
        · rw [decide_eq_false hy] at hon
          have ho1 : (onW y).map DV.int = [] := by simp [onW, hy]
          rw [ho1]
          simp [l_unb_1, hw, hon, g3]
      simp only [loop, hbd, step]
theorem num_zip (xs : List DV) : numbered xs = (List.range' 0 xs.length).zipWith (fun (k : Nat) (d : DV) => DV.tup [.int k, d]) xs := by
  unfold numbered
  apply List.ext_getElem?
  intro i
  by_cases h : i < xs.length
  · simp [h, List.getElem?_zipWith]
  · simp [h, List.getElem?_zipWith]
theorem unb_ok (E0 C D : Addr) (w : Int) (g : Nat → Bool) (hM : M.length ≤ 1000) {Ls : List (List Int)} {m : MV} (hm : IsL m (lnD Ls)) (hL : ∀ L ∈ Ls, L.length ≤ 1000) (hl : Ls.length ≤ 1000) :
    r_unb E0 C D [.obj D shN (shV C w g), m, .val (.tup (M.map DV.int))] = match unbF M g 0 Ls [] with
      | .ok R => .ok (.lst (R.map DV.int)) [.obj D shN (shV C w g), .val (.lst (lnD Ls)), .val (.tup (M.map DV.int))]
      | .error k => .exc ⟨E0, ["reason", "place"], [.str "line", .tup [.int k]]⟩ [.obj D shN (shV C w g), .val (.lst (lnD Ls)), .val (.tup (M.map DV.int))] := by
  obtain ⟨y3, y4, y5, y6, y7, y8, q⟩ := unb_loop E0 C D w g hM (some (.val (.lst (lnD Ls)))) Ls 0 [] none none none none none hL (by simp; omega)
  have hz : (List.range' 0 Ls.length).zipWith (fun (k : Nat) (d : DV) => DV.tup [.int k, d]) (lnD Ls) = numbered (lnD Ls) := by rw [num_zip]; simp [lnD]
  rw [hz] at q
  simp only [List.map_nil] at q
  generalize lnD Ls = T at *
  generalize M.map DV.int = TM at *
  cases hR : unbF M g 0 Ls [] with
  | ok R =>
    rw [hR] at q
    simp only at q ⊢
    generalize R.map DV.int = TR at *
    rcases hm with rfl | rfl <;> simp [r_unb, b_unb, q]
  | error k =>
    rw [hR] at q
    simp only at q ⊢
    rcases hm with rfl | rfl <;> simp [r_unb, b_unb, q]
/-! what lines cost -/
theorem lncost_ok (C D : Addr) (g : Nat → Bool) (L : List Int) (hw : 0 ≤ w) (hw2 : w ≤ 1000) (hL : L.length ≤ 1000) : r_lncost C D [.obj D shN (shV C w g), .val (.tup (L.map DV.int))] = .ok (.val (.int ((w - L.length) ^ 2))) [.obj D shN (shV C w g), .val (.tup (L.map DV.int))] := by
  have hl : (L.map DV.int).length = L.length := by simp
  have g1 : (w - (L.length : Int)).natAbs < 18446744073709551616 := by omega
  rw [← hl] at g1 ⊢
  generalize L.map DV.int = T at *
  simp [r_lncost, b_lncost, g1]
/-- the cost of the lines from the n-th of N on -/
def cstF (w : Int) (J : List Int) (N : Nat) : Nat → List (List Int) → Int
  | _, [] => 0
  | n, L :: Ls => (if n + 1 < N then (w - L.length) ^ 2 else 0) + (if 0 < n ∧ L.take J.length = J then 50 else 0) + cstF w J N (n + 1) Ls
theorem cost_loop (C D : Addr) (w : Int) (g : Nat → Bool) (hw : 0 ≤ w) (hw2 : w ≤ 1000) (T : List DV) (N : Nat) (hT : T.length = N) : ∀ (Ls : List (List Int)) (n : Nat) (acc : Int) (x4 x5 : Option MV), (∀ L ∈ Ls, L.length ≤ 1000) → ∃ y4 y5,
    loop (.tp [.nm 4, .nm 5]) (l_costof_1 C D) ((List.range' n Ls.length).zipWith (fun (k : Nat) (d : DV) => .tup [.int k, d]) (lnD Ls)) [some (.obj D shN (shV C w g)), some (.val (.lst T)), some (.val (.int acc)), some (.val (.tup (mD 48 (g 7)))), x4, x5] =
      .nx [some (.obj D shN (shV C w g)), some (.val (.lst T)), some (.val (.int (acc + cstF w (mrow 48 (g 7)) N n Ls))), some (.val (.tup (mD 48 (g 7)))), y4, y5]
  | [], n, acc, x4, x5, _ => ⟨x4, x5, by simp [loop, cstF, lnD]⟩
  | L :: Ls, n, acc, x4, x5, hL => by
    have hL0 := hL L (by simp)
    have hc := lncost_ok (w := w) C D g L hw hw2 hL0
    have hcons : (List.range' n (L :: Ls).length).zipWith (fun (k : Nat) (d : DV) => DV.tup [.int k, d]) (lnD (L :: Ls)) = .tup [.int n, .tup (L.map DV.int)] :: (List.range' (n + 1) Ls.length).zipWith (fun (k : Nat) (d : DV) => DV.tup [.int k, d]) (lnD Ls) := by
      rw [List.length_cons, List.range'_succ]
      rfl
    rw [hcons]
    have hbd : bindP (.tp [.nm 4, .nm 5]) (.tup [.int n, .tup (L.map DV.int)]) [some (.obj D shN (shV C w g)), some (.val (.lst T)), some (.val (.int acc)), some (.val (.tup (mD 48 (g 7)))), x4, x5] = some [some (.obj D shN (shV C w g)), some (.val (.lst T)), some (.val (.int acc)), some (.val (.tup (mD 48 (g 7)))), some (.val (.int n)), some (.val (.tup (L.map DV.int)))] := by simp
    have he : eqD (.tup ((L.map DV.int).take (mD 48 (g 7)).length)) (.tup (mD 48 (g 7))) = bl (decide (L.take (mrow 48 (g 7)).length = mrow 48 (g 7))) := by
      have e1 : (mD 48 (g 7)).length = (mrow 48 (g 7)).length := by simp [mD]
      rw [e1, ← List.map_take]
      unfold mD
      rw [eqD_tints (by simp; omega) (by simp [mrow]; split <;> simp)]
    have hlm : ((mD 48 (g 7)).length : Int) = ((mD 48 (g 7)).length : Nat) := rfl
    obtain ⟨y4, y5, ih⟩ := cost_loop C D w g hw hw2 T N hT Ls (n + 1) (acc + (if n + 1 < N then (w - L.length) ^ 2 else 0) + (if 0 < n ∧ L.take (mrow 48 (g 7)).length = mrow 48 (g 7) then 50 else 0)) (some (.val (.int n))) (some (.val (.tup (L.map DV.int)))) fun z hz => hL z (by simp [hz])
    refine ⟨y4, y5, ?_⟩
    have hsum : acc + cstF w (mrow 48 (g 7)) N n (L :: Ls) = acc + (if n + 1 < N then (w - L.length) ^ 2 else 0) + (if 0 < n ∧ L.take (mrow 48 (g 7)).length = mrow 48 (g 7) then 50 else 0) + cstF w (mrow 48 (g 7)) N (n + 1) Ls := by
      rw [cstF]
      omega
    rw [hsum, ← ih]
    have step : l_costof_1 C D [some (.obj D shN (shV C w g)), some (.val (.lst T)), some (.val (.int acc)), some (.val (.tup (mD 48 (g 7)))), some (.val (.int n)), some (.val (.tup (L.map DV.int)))] =
        .nx [some (.obj D shN (shV C w g)), some (.val (.lst T)), some (.val (.int (acc + (if n + 1 < N then (w - L.length) ^ 2 else 0) + (if 0 < n ∧ L.take (mrow 48 (g 7)).length = mrow 48 (g 7) then 50 else 0)))), some (.val (.tup (mD 48 (g 7)))), some (.val (.int n)), some (.val (.tup (L.map DV.int)))] := by
      have c1 : ((n : Int) < (T.length : Int) - 1) = (n + 1 < N) := by rw [hT]; exact propext ⟨fun h => by omega, fun h => by omega⟩
      have c2 : (0 < (n : Int)) = (0 < n) := propext ⟨fun h => by omega, fun h => by omega⟩
      generalize mD 48 (g 7) = J at *
      generalize L.map DV.int = TL at *
      by_cases h1 : n + 1 < N
      · have h1' := h1
        rw [← c1] at h1'
        by_cases h2 : 0 < n
        · have h2' := h2
          rw [← c2] at h2'
          by_cases h3 : L.take (mrow 48 (g 7)).length = mrow 48 (g 7)
          · rw [decide_eq_true h3] at he
            simp only [if_pos h1, if_pos (And.intro h2 h3)]
            simp [l_costof_1, h1', h2', h2, he, hc]
          · rw [decide_eq_false h3] at he
            simp only [if_pos h1, if_neg (fun z : 0 < n ∧ _ => h3 z.2)]
            simp [l_costof_1, h1', h2', h2, he, hc]
        · have h2' := h2
          rw [← c2] at h2'
          simp only [if_pos h1, if_neg (fun z : 0 < n ∧ _ => h2 z.1)]
          simp [l_costof_1, h1', h2', h2, hc]
      · have h1' := h1
        rw [← c1] at h1'
        by_cases h2 : 0 < n
        · have h2' := h2
          rw [← c2] at h2'
          by_cases h3 : L.take (mrow 48 (g 7)).length = mrow 48 (g 7)
          · rw [decide_eq_true h3] at he
            simp only [if_neg h1, if_pos (And.intro h2 h3)]
            simp [l_costof_1, h1', h2', h2, he]
          · rw [decide_eq_false h3] at he
            simp only [if_neg h1, if_neg (fun z : 0 < n ∧ _ => h3 z.2)]
            simp [l_costof_1, h1', h2', h2, he]
        · have h2' := h2
          rw [← c2] at h2'
          simp only [if_neg h1, if_neg (fun z : 0 < n ∧ _ => h2 z.1)]
          simp [l_costof_1, h1', h2', h2]
    simp only [loop, hbd, step]
theorem costof_ok (C D : Addr) (w : Int) (g : Nat → Bool) (hw : 0 ≤ w) (hw2 : w ≤ 1000) {Ls : List (List Int)} {m : MV} (hm : IsL m (lnD Ls)) (hL : ∀ L ∈ Ls, L.length ≤ 1000) (hl : Ls.length ≤ 1000) :
    r_costof C D [.obj D shN (shV C w g), m] = .ok (.val (.int (cstF w (mrow 48 (g 7)) Ls.length 0 Ls))) [.obj D shN (shV C w g), .val (.lst (lnD Ls))] := by
  obtain ⟨y4, y5, q⟩ := cost_loop C D w g hw hw2 (lnD Ls) Ls.length (by simp [lnD]) Ls 0 0 none none hL
  have hz : (List.range' 0 Ls.length).zipWith (fun (k : Nat) (d : DV) => DV.tup [.int k, d]) (lnD Ls) = numbered (lnD Ls) := by rw [num_zip]; simp [lnD]
  rw [hz, Int.zero_add] at q
  generalize lnD Ls = T at *
  rcases hm with rfl | rfl <;> simp [r_costof, b_costof, q]
end
end Sy
namespace Sy
open PySem PySem.Spec PyProof.Rows L2
/-! ### running what may raise, by simp -/
def noX : SRes → SRes
  | .exc _ _ => .stuck
  | r => r
@[simp] theorem noX_nx {s : Sl} : noX (.nx s) = .nx s := rfl
@[simp] theorem noX_bk {s : Sl} : noX (.bk s) = .bk s := rfl
@[simp] theorem noX_ct {s : Sl} : noX (.ct s) = .ct s := rfl
@[simp] theorem noX_ret {m : MV} {s : Sl} : noX (.ret m s) = .ret m s := rfl
open Classical in
noncomputable def tryN (C : Addr) (suite : SM) : SRes → SRes
  | .exc x s => if x.cls = C then noX (suite s) else .stuck
  | r => r
@[simp] theorem tryN_nx {C : Addr} {u : SM} {s : Sl} : tryN C u (.nx s) = .nx s := rfl
@[simp] theorem tryN_ret {C : Addr} {u : SM} {m : MV} {s : Sl} : tryN C u (.ret m s) = .ret m s := rfl
@[simp] theorem tryN_exc {C : Addr} {u : SM} {ns : List Str} {ds : List DV} {s : Sl} : tryN C u (.exc ⟨C, ns, ds⟩ s) = noX (u s) := by
  unfold tryN
  simp
@[simp] theorem S.tryNo_eq {C : Addr} {body suite : SM} {sl : Sl} : S.tryNo C body suite sl = tryN C suite (body sl) := by
  unfold S.tryNo tryN noX
  all_goals rfl
def okR : Res Op → Res Op
  | .ok o s => .ok o s
  | _ => .stuck
@[simp] theorem okR_ok {o : Op} {s : Sl} : okR (.ok o s) = .ok o s := rfl
def binXR (f : DV → DV → Option MV) (b : EM) : Res Op → Res Op
  | .exc x s => .exc x s
  | r => okR (r.bin1 f b)
@[simp] theorem binXR_ok {f : DV → DV → Option MV} {b : EM} {o : Op} {s : Sl} : binXR f b (.ok o s) = okR ((Res.ok o s).bin1 f b) := rfl
@[simp] theorem binXR_exc {f : DV → DV → Option MV} {b : EM} {x : Exc} {s : Sl} : binXR f b (.exc x s) = .exc x s := rfl
@[simp] theorem E.binX_eq {f : DV → DV → Option MV} {a b : EM} {sl : Sl} : E.binX f a b sl = binXR f b (a sl) := by
  unfold E.binX binXR okE okR
  rw [E.bin_eq]
  cases a sl <;> rfl
/-! ### what can follow a piece of a row -/
def folL (row : List Int) (e : Nat) : List (Nat × Way) := (e, .joined) :: if pat row e = 0 ∧ e + 1 < row.length then [(e + 1, .on)] else []
def plD (p : Nat × Way) : DV := .tup [.int p.1, .str p.2.s]
theorem lfol_ok {row : List Int} {m : MV} (hm : IsL m (row.map DV.int)) {e : Nat} (he : e < row.length) : r_lfol [m, .val (.int e)] = .ok (.lst ((folL row e).map plD)) [m, .val (.int e)] := by
  have hv : m.view = .lst (row.map DV.int) := by rcases hm with rfl | rfl <;> rfl
  have a := pat_at he
  have hl : (row.map DV.int).length = row.length := by simp
  unfold folL
  generalize row.map DV.int = T at *
  by_cases h1 : pat row e = 0
  · by_cases h2 : e + 1 < row.length
    · have h2' : (e : Int) + 1 < (T.length : Int) := by omega
      rw [if_pos ⟨h1, h2⟩]
      simp [r_lfol, b_lfol, hv, a, h1, h2', plD, Way.s]
    · have h2' : ¬ (e : Int) + 1 < (T.length : Int) := by omega
      rw [if_neg (fun z : _ ∧ _ => h2 z.2)]
      simp [r_lfol, b_lfol, hv, a, h1, h2', plD, Way.s]
  · rw [if_neg (fun z : _ ∧ _ => h1 z.1)]
    simp [r_lfol, b_lfol, hv, a, h1, plD, Way.s]
theorem fol_mem {row : List Int} {e : Nat} (he : e < row.length) {p : Nat × Way} (h : p ∈ folL row e) : p.1 < row.length ∧ e ≤ p.1 ∧ p.1 ≤ e + 1 := by
  unfold folL at h
  rcases List.mem_cons.mp h with rfl | h
  · exact ⟨he, by simp, by simp⟩
  · split at h
    · rename_i hc
      simp at h
      subst h
      exact ⟨hc.2, by simp, by simp⟩
    · simp at h
end Sy
namespace Sy
open PySem PySem.Spec PyProof.Rows L2
/-! ### keys -/
def keyK : DV → Option Key
  | .int i => some (.inl i)
  | .str s => some (.inr s)
  | _ => none
def keyKs : List DV → Option (List Key)
  | [] => some []
  | d :: ds => match keyK d, keyKs ds with
    | some k, some ks => some (k :: ks)
    | _, _ => none
def keyT : DV → Option (List Key)
  | .tup ds => keyKs ds
  | _ => none
section
variable {K : PySem.W.Frag} {G H : Hp}
theorem keyK_ok {d : DV} {k : Key} {v : V} (h : keyK d = some k) (r : RD K G d v) : v = kV k := by
  cases d with
  | int i => cases h; cases r; rfl
  | str i => cases h; cases r; rfl
  | _ => cases h
theorem keyKs_ok : ∀ {ds : List DV} {ks : List Key} {vs : List V}, keyKs ds = some ks → RDs K G ds vs → vs = ks.map kV
  | [], ks, vs, h, r => by cases h; cases r; rfl
  | d :: ds, ks, vs, h, r => by
    unfold keyKs at h
    cases h1 : keyK d with
    | none => rw [h1] at h; cases h
    | some k =>
      cases h2 : keyKs ds with
      | none => rw [h1, h2] at h; cases h
      | some ks2 =>
        rw [h1, h2] at h
        cases h
        cases r with
        | cons q r => rw [keyK_ok h1 q, keyKs_ok h2 r]; rfl
/-! what stands under a key -/
def dget {α : Type} : List (List Key) → List α → List Key → Option α
  | k0 :: ks, d :: ds, k => if k0 = k then some d else dget ks ds k
  | _, _, _ => none
theorem dget_val : ∀ {ks : List (List Key)} {vs : List V} {k : List Key}, valV (ks.zip vs) k = dget ks vs k
  | [], vs, k => rfl
  | k0 :: ks, [], k => rfl
  | k0 :: ks, v :: vs, k => by
    rw [List.zip_cons_cons]
    unfold dget
    by_cases h : k0 = k
    · rw [valV_pos h, if_pos h]
    · rw [valV_neg h, if_neg h, dget_val]
theorem dget_rd : ∀ {ks : List (List Key)} {ds : List DV} {vs : List V} {k : List Key}, RDs K G ds vs → (∀ d, dget ks ds k = some d → ∃ v, dget ks vs k = some v ∧ RD K G d v) ∧ (dget ks ds k = none → dget ks vs k = none)
  | [], ds, vs, k, r => ⟨(fun d h => by cases h), (fun _ => rfl)⟩
  | k0 :: ks, [], vs, k, r => by cases r; exact ⟨(fun d h => by cases h), (fun _ => rfl)⟩
  | k0 :: ks, e :: ds, _, k, r => by
    cases r with
    | cons q r =>
      unfold dget
      by_cases h : k0 = k
      · rw [if_pos h, if_pos h]
        exact ⟨fun d e => by cases e; exact ⟨_, rfl, q⟩, fun z => nomatch z⟩
      · rw [if_neg h, if_neg h]
        exact dget_rd r
theorem zip_snoc {α β : Type} : ∀ {l : List α} {m : List β} {a : α} {b : β}, l.length = m.length → l.zip m ++ [(a, b)] = (l ++ [a]).zip (m ++ [b])
  | [], [], _, _, _ => rfl
  | x :: l, y :: m, a, b, h => by
    rw [List.zip_cons_cons, List.cons_append, zip_snoc (by simpa using h)]
    rfl
/-! ### x[k] of a dict -/
def dixD : DV → DV → Option MV
  | .dct ks ds, e => (keyT e).bind fun k => (dget ks ds k).map MV.val
  | _, _ => none
def rDGetR : R2 := fun x y H Q => ∃ a v, x = .ref a ∧ DGet H a y (some v) ∧ Q v H
theorem key_plain {P : Addr → Prop} {y : V} {e : DV} {k : List Key} (h : keyT e = some k) (ry : RW K (hid H P) H e y) : ∃ b, y = .ref b ∧ H b = some (.tup (k.map kV)) := by
  cases e with
  | tup ds =>
    obtain ⟨b, ws, rfl, _, h2, r2⟩ := rw_tupP hid_same ry
    rw [keyKs_ok h r2] at h2
    exact ⟨b, rfl, h2⟩
  | _ => cases h
theorem b_dix : B2 K rDGetR dixD := fun P H x y d e m Q h al rx ry q => by
  unfold dixD at h
  split at h
  · rename_i ks ds
    cases hk : keyT e with
    | none => rw [hk] at h; cases h
    | some k =>
      rw [hk] at h
      obtain ⟨d, e1, e2⟩ := map_some (show (dget ks ds k).map MV.val = some m from h)
      subst e2
      obtain ⟨a, vs, rfl, h1, l, r⟩ := rw_dct hid_same rx
      obtain ⟨b, rfl, h2⟩ := key_plain hk ry
      obtain ⟨v, ev, rv⟩ := (dget_rd r).1 d e1
      have g := DGet.t h1 h2
      rw [dget_val, ev] at g
      exact ⟨a, v, rfl, g, new_val q rv⟩
  · cases h
end
theorem se_dix {X : Cx} {o i : Expr} {pos : Pos} {mo mi : EM} (hu : X.A.units + 1 < cLine) (ho : SE X o mo) (hi : SE X i mi) (hs : NoSl i := by intro _ _; rfl) : SE X (.Subscript o i pos) (E.bin dixD mo mi) :=
  (pe_dget hu ho hi hs).imp fun σ H Q q => bin_imp b_dix q
/-! ### a slot's own thing is made anew -/
section
variable {K : PySem.W.Frag} {O : Addr → Prop} {W : Own} {sl : Sl} {σ : L2.St} {H H' : Hp} {i : Nat} {m m' : MV} {v : V} {w' : List Addr}
theorem renew_same (x : Sim K O W sl σ H) (keep : ∀ b o, b ∉ W i → H b = some o → H' b = some o) (hw : ∀ b ∈ w', b ∈ W i ∨ H b = none) : Same (gr O W H) (gr O (setW W i w') H') := fun a o h => by
  obtain ⟨h1, h2⟩ := hid_some.mp h
  have hi : a ∉ W i := fun z => h1 (.inr ⟨i, z⟩)
  refine hid_some.mpr ⟨fun y => ?_, keep a o hi h2⟩
  rcases y with y | ⟨j, y⟩
  · exact h1 (.inl y)
  · unfold setW at y
    by_cases e : j = i
    · rw [if_pos e] at y
      rcases hw a y with z | z
      · exact hi z
      · rw [h2] at z; cases z
    · rw [if_neg e] at y; exact h1 (.inr ⟨j, y⟩)
theorem Sim.renew (x : Sim K O W sl σ H) (e : sl[i]? = some (some m)) (ev : σ[i]? = some (some v)) (keep : ∀ b o, b ∉ W i → H b = some o → H' b = some o) (hw : ∀ b ∈ w', b ∈ W i ∨ H b = none) (rm : RM K (gr O (setW W i w') H') H' m' v w') :
    Sim K O (setW W i w') (sl.set i (some m')) σ H' ∧ Tr W H (setW W i w') nof H' := by
  have hi : i < sl.length := (List.getElem?_eq_some_iff.mp e).1
  have hs := renew_same x keep hw
  refine ⟨⟨fun j m2 e2 => ?_, fun j h => ?_, fun j k a h1 h2 => ?_, fun j a h => ?_, fun a h => ?_, by simpa using x.len⟩, ⟨fun b o h hn => keep b o (hn i) h, fun j a h => ?_, fun _ h => h.elim⟩⟩
  · by_cases hj : j = i
    · subst hj
      rw [List.getElem?_set_self hi] at e2
      cases e2
      refine ⟨v, ev, ?_⟩
      have : setW W j w' j = w' := by simp [setW]
      rw [this]
      exact rm
    · rw [List.getElem?_set_ne (Ne.symm hj)] at e2
      obtain ⟨v', e1, r'⟩ := x.at_ j m2 e2
      have : setW W i w' j = W j := by simp [setW, hj]
      rw [this]
      exact ⟨v', e1, r'.mono hs fun a ha o h => keep a o (fun z => hj (x.inj j i a ha z)) h⟩
  · by_cases hj : j = i
    · subst hj
      exact absurd (List.getElem?_set_self hi) (h m')
    · simp only [setW, hj, if_false]
      exact x.no j fun m' e => h m' (by rw [List.getElem?_set_ne (Ne.symm hj)]; exact e)
  · unfold setW at h1 h2
    have cross : ∀ k, ¬ k = i → a ∈ w' → a ∈ W k → False := fun k hk ha hb => by
      rcases hw a ha with z | z
      · exact hk (x.inj k i a hb z)
      · obtain ⟨o, eo⟩ := x.alive hb
        rw [z] at eo; cases eo
    by_cases e1 : j = i
    · by_cases e2 : k = i
      · rw [e1, e2]
      · rw [if_pos e1] at h1
        rw [if_neg e2] at h2
        exact (cross k e2 h1 h2).elim
    · by_cases e2 : k = i
      · rw [if_pos e2] at h2
        rw [if_neg e1] at h1
        exact (cross j e1 h2 h1).elim
      · rw [if_neg e1] at h1
        rw [if_neg e2] at h2
        exact x.inj j k a h1 h2
  · unfold setW at h
    by_cases e1 : j = i
    · rw [if_pos e1] at h
      rcases hw a h with z | z
      · exact x.dis i a z
      · intro ho
        obtain ⟨o, eo⟩ := x.al a ho
        rw [z] at eo; cases eo
    · rw [if_neg e1] at h
      exact x.dis j a h
  · obtain ⟨o, eo⟩ := x.al a h
    exact ⟨o, keep a o (fun z => x.dis i a z h) eo⟩
  · unfold setW at h
    by_cases e1 : j = i
    · rw [if_pos e1] at h
      rcases hw a h with z | z
      · exact .inl ⟨i, z⟩
      · exact .inr z
    · rw [if_neg e1] at h
      exact .inl ⟨j, h⟩
end
/-! ### {} -/
def E.dnew : EM := fun sl => .ok (.tmp (.dct [] [])) sl
theorem dnew_imp {K : PySem.W.Frag} {σ : L2.St} {H : Hp} {Q : VK} (q : tE K E.dnew σ H Q) : tDNewT σ H Q := by
  obtain ⟨O, W, sl, o, sl', x, e, q⟩ := tE_of q
  cases e
  intro p hp
  have sm : Same H (upd H p (.dT [])) := fun b ob eb => by rw [upd_ne (ne_of_none eb hp)]; exact eb
  have hG : Same H (upd H p (.dT [])) := sm
  obtain ⟨y1, y2, y3, y4⟩ := fin_tmp (fr := [p]) (m := .dct [] []) (v := .ref p) Tr.refl x (fun a h => h) sm (fun a h => by simp at h; rw [h]; exact hp) (.dct (vs := []) upd_same rfl .nil)
  exact q W [p] (.ref p) _ y1 y2 y3 y4
theorem se_dnew {X : Cx} {pos : Pos} : SE X (.Dict [] [] pos) E.dnew := pe_dnewT.imp fun σ H Q q => dnew_imp q
/-! self.f = {} -/
def S.setfd (C : Addr) (f : Str) (i : Nat) : SM := fun sl => match sl[i]? with
  | some (some (.obj C' ns ds)) => if C' = C ∧ f ∉ ns ∧ ns.length < 900 then .nx (sl.set i (some (.bo C ns ds f [] []))) else .stuck
  | _ => .stuck
theorem fput_new {α : Type} {f : Str} {v : α} : ∀ {ns : List Str} {vs : List α}, f ∉ ns → ns.length = vs.length → fput f v ns vs = (ns ++ [f], vs ++ [v])
  | [], [], _, _ => rfl
  | n :: ns, w :: vs, h, l => by
    have hn : ¬ n = f := fun z => h (by rw [z]; exact List.mem_cons_self)
    have ih := fput_new (f := f) (v := v) (fun z => h (List.mem_cons_of_mem _ z)) (show ns.length = vs.length by simpa using l)
    unfold fput
    rw [if_neg hn, ih]
    rfl
theorem setfd_imp {K : PySem.W.Frag} {Wx : WX} {C : Addr} {f : Str} {i : Nat} {D : Ends} {as : List Nat} {σ : L2.St} {H : Hp} (cl : Cls K C) (na : NoAttr K C f) (q : tS K Wx (S.setfd C f i) as D σ H) : sFld K (tVar i) tDNewT f D σ H := by
  obtain ⟨O, W, sl, x, q⟩ := q
  intro p hp
  unfold S.setfd at q
  cases e2 : sl[i]? with
  | none => rw [e2] at q; exact q.elim
  | some y =>
    cases y with
    | none => rw [e2] at q; exact q.elim
    | some m =>
      cases m with
      | obj C' ns ds =>
        rw [e2] at q
        simp only at q
        by_cases hc : C' = C ∧ f ∉ ns ∧ ns.length < 900
        · rw [if_pos hc] at q
          obtain ⟨rfl, hf, hl⟩ := hc
          obtain ⟨v, ev, rm⟩ := x.get e2
          generalize hw : W i = w at rm
          cases rm with
          | @obj a dx _ _ vs _ h l r =>
            have hap : a ≠ p := ne_of_none h hp
            have ha : a ∈ W i := by rw [hw]; simp
            obtain ⟨z1, z2⟩ := fput_zip (f := f) (v := V.ref p) l
            have z3 := fput_new (f := f) (v := V.ref p) hf l
            refine ⟨.ref a, ev, a, C', dx, ns.zip vs, rfl, by rw [upd_ne hap]; exact h, cl, na, by rw [List.length_zip]; omega, ?_⟩
            rw [z1, z3]
            have keep : ∀ b o, b ∉ W i → H b = some o → upd (upd H p (.dT [])) a (.ins C' dx ((ns ++ [f]).zip (vs ++ [.ref p]))) b = some o := fun b o hb eb => by
              rw [upd_ne (fun z => hb (by rw [z]; exact ha)), upd_ne (ne_of_none eb hp)]
              exact eb
            have hww : ∀ b ∈ [a, p], b ∈ W i ∨ H b = none := fun b hb => by
              simp at hb
              rcases hb with rfl | rfl
              · exact .inl ha
              · exact .inr hp
            have hs := renew_same x keep hww
            obtain ⟨x3, t3⟩ := x.renew (w' := [a, p]) (m' := .bo C' ns ds f [] []) e2 ev keep hww (.bo (vs := vs) (ws := []) upd_same l (r.up hs) (by rw [upd_ne (Ne.symm hap), upd_same]; rfl) rfl .nil)
            exact q _ σ _ t3 x3 Agr.refl
        · rw [if_neg hc] at q; exact q.elim
      | _ => rw [e2] at q; exact q.elim
theorem ss_setfd {X : Cx} {as : List Nat} {pos pos' p p2 : Pos} {C : Addr} {f x : Str} (i : Nat) (cl : Cls X.K C) (na : NoAttr X.K C f) (hN : X.N[i]? = some x := by rfl) (hv : Vis X.env.scope x := by first | exact Or.inl rfl | exact Or.inr (Or.inl rfl) | exact Or.inr (Or.inr rfl)) (hd : (x == ("__debug__" : Str)) = false := by decide)
    (hcd : (x == ("__classdict__" : Str)) = false := by decide) (hs : swapsWith (.Dict [] [] p2) (some (.Attribute (.Name x p) f pos')) pos.line X.env = pure false := by rfl) : SS X (.Assign [.Attribute (.Name x p) f pos'] (.Dict [] [] p2) pos) (S.setfd C f i) as := fun Wx tk => (ps_fld (pv i hN hv hd hcd) pe_dnewT hs).imp fun D σ H q => setfd_imp cl na q
end Sy
namespace Sy
open PySem PySem.Spec PyProof.Rows L2
/-! ### list(range(a, b)) -/
def smallR (a b : Int) : Prop := 0 ≤ a ∧ a ≤ 16777216 ∧ 0 ≤ b ∧ b ≤ 16777216
noncomputable instance (a b : Int) : Decidable (smallR a b) := Classical.propDecidable _
def fewK (n : Nat) : Prop := n < 100000
noncomputable instance (n : Nat) : Decidable (fewK n) := Classical.propDecidable _
noncomputable def lrngD : DV → DV → Option MV
  | .int a, .int b => if smallR a b then some (.lst (ups a (b - a))) else none
  | _, _ => none
@[simp] theorem lrngD_int {a b : Int} : lrngD (.int a) (.int b) = if smallR a b then some (.lst (ups a (b - a))) else none := rfl
def rLrng : R2 := fun x y H Q => ∃ i j, x = .int i ∧ y = .int j ∧ RgOk i j ∧ ∀ q, H q = none → Q (.ref q) (upd H q (.lst (rgV i j)))
theorem rds_map {K : PySem.W.Frag} {G : Hp} {α : Type} (f : α → DV) (h : α → V) (hr : ∀ a, RD K G (f a) (h a)) : ∀ l : List α, RDs K G (l.map f) (l.map h)
  | [] => .nil
  | a :: l => .cons (hr a) (rds_map f h hr l)
theorem b_lrng {K : PySem.W.Frag} : B2 K rLrng lrngD := fun P H x y d e m Q h al rx ry q => by
  unfold lrngD at h
  split at h
  · rename_i a b
    by_cases hc : smallR a b
    · rw [if_pos hc] at h
      cases h
      obtain ⟨h0, h1, h2, h3⟩ := hc
      exact ⟨a, b, rw_int rx, rw_int ry, RgOk.of_le h0 h3 h1 h2, new_lst al (rds_map _ _ (fun i => .int _) _) q⟩
    · rw [if_neg hc] at h; cases h
  · cases h
theorem se_lrng {X : Cx} {a b : Expr} {ma mb : EM} {p p2 pos pos2 : Pos} (hc : X.calm = true) (hm : X.mg "list" = none) (hm2 : X.mg "range" = none) (ha : SE X a ma) (hb : SE X b mb) (hg : Gl X "list" := by rfl) (hg2 : Gl X "range" := by rfl) (na : starEach [a, b] X.env = (false, eval a X.env) :: starEach [b] X.env := by rfl)
    (nb : starEach [b] X.env = (false, eval b X.env) :: starEach [] X.env := by rfl) (hp : (backTo pos2 (starEach [b] X.env)).any (·.1) = false := by rfl)
    (ne : starEach [.Call (.Name "range" p2) [a, b] [] pos2] X.env = (false, eval (.Call (.Name "range" p2) [a, b] [] pos2) X.env) :: starEach [] X.env := by rfl) :
    SE X (.Call (.Name "list" p) [.Call (.Name "range" p2) [a, b] [] pos2] [] pos) (E.bin lrngD ma mb) :=
  (pe_listRg hc hg hm (prg_2 hg2 hm2 ha hb na nb hp) ne).imp fun σ H Q q => bin_imp b_lrng q
/-! ### the keys that slots hold -/
def keyAt (sl : Sl) (j : Nat) : Option Key := match sl[j]? with
  | some (some (.val d)) => keyK d
  | _ => none
theorem keyAt_ok {K : PySem.W.Frag} {O : Addr → Prop} {W : Own} {sl : Sl} {σ : L2.St} {H : Hp} {j : Nat} {k : Key} (x : Sim K O W sl σ H) (h : keyAt sl j = some k) : σ[j]? = some (some (kV k)) := by
  unfold keyAt at h
  split at h
  · rename_i d e
    obtain ⟨v, ev, r⟩ := x.get e
    rw [keyK_ok h r.rdv] at ev
    exact ev
  · cases h
section
variable {K : PySem.W.Frag} {Wx : WX} {σ : L2.St} {H : Hp} {D : Ends} {as : List Nat} {ma : EM}
/-! self.f[(x, y)] = e -/
noncomputable def S.dputf (C : Addr) (f : Str) (i j k : Nat) (m : EM) : SM := fun sl => (m sl).s fun o sl => match settle1 o sl with
  | some (d, sl) => (match sl[i]?, keyAt sl j, keyAt sl k with
    | some (some (.bo C' ns ds f' ks es)), some kj, some kk => if C' = C ∧ f' = f ∧ f ∉ ns ∧ dget ks es [kj, kk] = none ∧ fewK ks.length then .nx (sl.set i (some (.bo C ns ds f (ks ++ [[kj, kk]]) (es ++ [d])))) else .stuck
    | _, _, _ => .stuck)
  | none => .stuck
theorem look_snoc {f : Str} {b : V} : ∀ {ns : List Str} {vs : List V}, f ∉ ns → ns.length = vs.length → ((ns ++ [f]).zip (vs ++ [b])).lookup f = some b
  | [], [], _, _ => by simp
  | n :: ns, w :: vs, h, l => by
    have hn : (f == n) = false := by
      simp only [List.mem_cons, not_or] at h
      simpa using h.1
    rw [List.cons_append, List.cons_append, List.zip_cons_cons, List.lookup, hn]
    exact look_snoc (fun z => h (List.mem_cons_of_mem _ z)) (by simpa using l)
theorem put_snoc {ks : List (List Key)} {ws : List V} {es : List DV} {G : Hp} {k : List Key} {v : V} (l : ks.length = ws.length) (r : RDs K G es ws) (h : dget ks es k = none) : putK (ks.zip ws) k v = (ks ++ [k]).zip (ws ++ [v]) := by
  rw [putK_new v (by rw [dget_val]; exact (dget_rd r).2 h), zip_snoc l]
theorem dputf_imp {C : Addr} {f : Str} {i j k : Nat} (cl : Cls K C) (na : NoAttr K C f) (q : tS K Wx (S.dputf C f i j k ma) as D σ H) :
    sDPut (tUn (rFld K f) (tVar i)) (fun σ H Q => ∃ v1, σ[j]? = some (some v1) ∧ ∃ v2, σ[k]? = some (some v2) ∧ ∀ p, H p = none → Q (.ref p) (upd H p (.tup [v1, v2]))) (tE K ma) D σ H := by
  obtain ⟨O, W, sl, x, q⟩ := q
  obtain ⟨o, s1, e1, q⟩ := post_ok q
  refine tE_mk x e1 fun W1 f1 v1 H1 t1 x1 r1 n1 => ?_
  cases es : settle1 o s1 with
  | none => rw [es] at q; exact q.elim
  | some pr =>
    obtain ⟨d, s2⟩ := pr
    rw [es] at q
    simp only at q
    obtain ⟨W2, x2, rd, sh⟩ := settle1_ok x1 r1 n1 es
    cases e2 : s2[i]? with
    | none => rw [e2] at q; exact q.elim
    | some y =>
      cases y with
      | none => rw [e2] at q; exact q.elim
      | some m =>
        cases m with
        | bo C' ns ds f' ks es' =>
          cases ej : keyAt s2 j with
          | none => rw [e2, ej] at q; exact q.elim
          | some kj =>
            cases ek : keyAt s2 k with
            | none => rw [e2, ej, ek] at q; exact q.elim
            | some kk =>
              rw [e2, ej, ek] at q
              simp only at q
              by_cases hc : C' = C ∧ f' = f ∧ f ∉ ns ∧ dget ks es' [kj, kk] = none ∧ fewK ks.length
              · rw [if_pos hc] at q
                obtain ⟨rfl, rfl, hf, hg, hl⟩ := hc
                obtain ⟨v, ev, rm⟩ := x2.get e2
                generalize hw : W2 i = w at rm
                cases rm with
                | @bo a b dx _ _ vs _ _ _ ws _ h l r h2 l2 r2 =>
                  have ha : a ∈ W2 i := by rw [hw]; simp
                  have hb : b ∈ W2 i := by rw [hw]; simp
                  have hab : a ≠ b := fun z => by rw [z, h2] at h; cases h
                  refine ⟨.ref a, ev, a, C', dx, _, .ref b, rfl, h, cl, na, look_snoc hf l, ?_⟩
                  refine ⟨_, keyAt_ok x2 ej, _, keyAt_ok x2 ek, fun p hp => ?_⟩
                  have hbp : b ≠ p := ne_of_none h2 hp
                  have hap : a ≠ p := ne_of_none h hp
                  have hput : DPut (upd H1 p (.tup [kV kj, kV kk])) b (.ref p) v1 (upd (upd H1 p (.tup [kV kj, kV kk])) b (.dT (putK (ks.zip ws) [kj, kk] v1))) :=
                    DPut.t (by rw [upd_ne hbp]; exact h2) (by rw [upd_same]; rfl) (by rw [List.length_zip, sizeLine_eq]; unfold fewK at hl; omega)
                  refine ⟨b, _, rfl, hput, ?_⟩
                  rw [put_snoc l2 r2 hg]
                  have keep : ∀ c o, c ∉ W2 i → H1 c = some o → upd (upd H1 p (.tup [kV kj, kV kk])) b (.dT ((ks ++ [[kj, kk]]).zip (ws ++ [v1]))) c = some o := fun c o hc eo => by
                    rw [upd_ne (fun z => hc (by rw [z]; exact hb)), upd_ne (ne_of_none eo hp)]
                    exact eo
                  have hww : ∀ c ∈ [a, b], c ∈ W2 i ∨ H1 c = none := fun c hc => by
                    simp at hc
                    rcases hc with rfl | rfl
                    · exact .inl ha
                    · exact .inl hb
                  have hs := renew_same x2 keep hww
                  obtain ⟨x3, t3⟩ := x2.renew (w' := [a, b]) (m' := .bo C' ns ds f' (ks ++ [[kj, kk]]) (es' ++ [d])) e2 ev keep hww (.bo (vs := vs) (ws := ws ++ [v1]) (by rw [upd_ne hab, upd_ne hap]; exact h) l (r.up hs) upd_same (by simp [l2]) ((r2.up hs).append (.cons (rd.up hs) .nil)))
                  exact q _ σ _ ((tr_shr t1.noL sh).trans t3) x3 Agr.refl
              · rw [if_neg hc] at q; exact q.elim
        | _ => rw [e2] at q; exact q.elim
/-! x[(y, z)] = e, x a dict of its own -/
noncomputable def S.dputv (i j k : Nat) (m : EM) : SM := fun sl => (m sl).s fun o sl => match settle1 o sl with
  | some (d, sl) => (match sl[i]?, keyAt sl j, keyAt sl k with
    | some (some (.dct ks es)), some kj, some kk => if dget ks es [kj, kk] = none ∧ fewK ks.length then .nx (sl.set i (some (.dct (ks ++ [[kj, kk]]) (es ++ [d])))) else .stuck
    | _, _, _ => .stuck)
  | none => .stuck
theorem dputv_imp {i j k : Nat} (q : tS K Wx (S.dputv i j k ma) as D σ H) :
    sDPut (tVar i) (fun σ H Q => ∃ v1, σ[j]? = some (some v1) ∧ ∃ v2, σ[k]? = some (some v2) ∧ ∀ p, H p = none → Q (.ref p) (upd H p (.tup [v1, v2]))) (tE K ma) D σ H := by
  obtain ⟨O, W, sl, x, q⟩ := q
  obtain ⟨o, s1, e1, q⟩ := post_ok q
  refine tE_mk x e1 fun W1 f1 v1 H1 t1 x1 r1 n1 => ?_
  cases es : settle1 o s1 with
  | none => rw [es] at q; exact q.elim
  | some pr =>
    obtain ⟨d, s2⟩ := pr
    rw [es] at q
    simp only at q
    obtain ⟨W2, x2, rd, sh⟩ := settle1_ok x1 r1 n1 es
    cases e2 : s2[i]? with
    | none => rw [e2] at q; exact q.elim
    | some y =>
      cases y with
      | none => rw [e2] at q; exact q.elim
      | some m =>
        cases m with
        | dct ks es' =>
          cases ej : keyAt s2 j with
          | none => rw [e2, ej] at q; exact q.elim
          | some kj =>
            cases ek : keyAt s2 k with
            | none => rw [e2, ej, ek] at q; exact q.elim
            | some kk =>
              rw [e2, ej, ek] at q
              simp only at q
              by_cases hc : dget ks es' [kj, kk] = none ∧ fewK ks.length
              · rw [if_pos hc] at q
                obtain ⟨hg, hl⟩ := hc
                obtain ⟨v, ev, rm⟩ := x2.get e2
                generalize hw : W2 i = w at rm
                cases rm with
                | @dct b _ ws _ h2 l2 r2 =>
                  have hb : b ∈ W2 i := by rw [hw]; simp
                  refine ⟨.ref b, ev, _, keyAt_ok x2 ej, _, keyAt_ok x2 ek, fun p hp => ?_⟩
                  have hbp : b ≠ p := ne_of_none h2 hp
                  have hput : DPut (upd H1 p (.tup [kV kj, kV kk])) b (.ref p) v1 (upd (upd H1 p (.tup [kV kj, kV kk])) b (.dT (putK (ks.zip ws) [kj, kk] v1))) :=
                    DPut.t (by rw [upd_ne hbp]; exact h2) (by rw [upd_same]; rfl) (by rw [List.length_zip, sizeLine_eq]; unfold fewK at hl; omega)
                  refine ⟨b, _, rfl, hput, ?_⟩
                  rw [put_snoc l2 r2 hg]
                  have keep : ∀ c o, c ∉ W2 i → H1 c = some o → upd (upd H1 p (.tup [kV kj, kV kk])) b (.dT ((ks ++ [[kj, kk]]).zip (ws ++ [v1]))) c = some o := fun c o hc eo => by
                    rw [upd_ne (fun z => hc (by rw [z]; exact hb)), upd_ne (ne_of_none eo hp)]
                    exact eo
                  have hww : ∀ c ∈ [b], c ∈ W2 i ∨ H1 c = none := fun c hc => by
                    simp at hc
                    rw [hc]
                    exact .inl hb
                  have hs := renew_same x2 keep hww
                  obtain ⟨x3, t3⟩ := x2.renew (w' := [b]) (m' := .dct (ks ++ [[kj, kk]]) (es' ++ [d])) e2 ev keep hww (.dct (vs := ws ++ [v1]) upd_same (by simp [l2]) ((r2.up hs).append (.cons (rd.up hs) .nil)))
                  exact q _ σ _ ((tr_shr t1.noL sh).trans t3) x3 Agr.refl
              · rw [if_neg hc] at q; exact q.elim
        | _ => rw [e2] at q; exact q.elim
/-! x.f[y] -/
def E.dgf (C : Addr) (f : Str) (i j : Nat) : EM := fun sl => match sl[i]?, sl[j]? with
  | some (some (.bo C' ns ds f' ks es)), some (some (.val e)) => if C' = C ∧ f' = f ∧ f ∉ ns then (match (keyT e).bind (dget ks es) with
    | some d => .ok (.tmp (.val d)) sl
    | none => .stuck) else .stuck
  | _, _ => .stuck
theorem dgf_imp {C : Addr} {f : Str} {i j : Nat} {Q : VK} (cl : Cls K C) (na : NoAttr K C f) (q : tE K (E.dgf C f i j) σ H Q) : tDGet (tUn (rFld K f) (tVar i)) (tVar j) σ H Q := by
  obtain ⟨O, W, sl, o, sl', x, e, q⟩ := tE_of q
  unfold E.dgf at e
  split at e
  · rename_i C' ns ds f' ks es kd e1 e2
    by_cases hc : C' = C ∧ f' = f ∧ f ∉ ns
    · rw [if_pos hc] at e
      obtain ⟨rfl, rfl, hf⟩ := hc
      cases hk : keyT kd with
      | none => rw [hk] at e; cases e
      | some k =>
        rw [hk, Option.bind_some] at e
        cases hd : dget ks es k with
        | none => rw [hd] at e; cases e
        | some d =>
          rw [hd] at e
          cases e
          obtain ⟨v, ev, rm⟩ := x.get e1
          obtain ⟨u, eu, ru⟩ := x.get e2
          generalize hw : W i = w at rm
          cases rm with
          | @bo a b dx _ _ vs _ _ _ ws _ h l r h2 l2 r2 =>
            refine ⟨.ref a, ev, a, C', dx, _, .ref b, rfl, h, cl, na, look_snoc hf l, u, eu, ?_⟩
            obtain ⟨c, rfl, h3⟩ := key_plain (P := own O W) hk ru.toW
            obtain ⟨y, ey, ry⟩ := (dget_rd r2).1 d hd
            have g := DGet.t h2 h3
            rw [dget_val, ey] at g
            refine ⟨b, y, rfl, g, ?_⟩
            exact q W [] y H ⟨fun _ _ h _ => h, fun i a h => .inl ⟨i, h⟩, fun a h => by simp at h⟩ (x.less fun a h => h.elim id fun h => by simp at h) (.tmp (.val (ry.up (hid_less fun b h => h.elim (fun h => h.elim .inl fun h => by simp at h) .inr)))) (fun a h => by simp at h)
    · rw [if_neg hc] at e; cases e
  · cases e
end
end Sy
namespace Sy
open PySem PySem.Spec PyProof.Rows L2
section
variable {X : Cx} {as : List Nat} {pos pos' p p2 p3 p4 apos : Pos} {e : Expr} {ma : EM} {x y z : Str}
theorem key2 {j k : Nat} {x1} (hy : X.N[j]? = some y) (hz : X.N[k]? = some z) (vy : Vis X.env.scope y) (vz : Vis X.env.scope z) (dy : (y == ("__debug__" : Str)) = false) (dz : (z == ("__debug__" : Str)) = false) (cy : (y == ("__classdict__" : Str)) = false) (cz : (z == ("__classdict__" : Str)) = false)
    (hs : starEach [.Name y p3, .Name z p4] X.env = (false, eval (.Name y p3) X.env) :: starEach [.Name z p4] X.env) (hs2 : starEach [.Name z p4] X.env = (false, eval (.Name z p4) X.env) :: starEach [] X.env) :
    PE X (.Tuple [.Name y p3, .Name z p4] x1 pos') (fun σ H Q => ∃ v1, σ[j]? = some (some v1) ∧ ∃ v2, σ[k]? = some (some v2) ∧ ∀ p, H p = none → Q (.ref p) (upd H p (.tup [v1, v2]))) :=
  (pe_tup (pa_cons (pv j hy vy dy cy) (pa_cons (pv k hz vz dz cz) pa_nil hs2) hs)).imp fun σ H Q ⟨v1, h1, v2, h2, q⟩ => ⟨v1, h1, v2, h2, by show 2 ≤ sizeLine; rw [sizeLine_eq]; omega, q⟩
theorem ss_dputf {C : Addr} {f : Str} {x1} (i j k : Nat) (hu : X.A.units + 1 < cLine) (cl : Cls X.K C) (na : NoAttr X.K C f) (he : SE X e ma)
    (hN : X.N[i]? = some x := by rfl) (hv : Vis X.env.scope x := by first | exact Or.inl rfl | exact Or.inr (Or.inl rfl) | exact Or.inr (Or.inr rfl)) (hd : (x == ("__debug__" : Str)) = false := by decide) (hcd : (x == ("__classdict__" : Str)) = false := by decide)
    (hy : X.N[j]? = some y := by rfl) (vy : Vis X.env.scope y := by first | exact Or.inl rfl | exact Or.inr (Or.inl rfl) | exact Or.inr (Or.inr rfl)) (dy : (y == ("__debug__" : Str)) = false := by decide) (cy : (y == ("__classdict__" : Str)) = false := by decide)
    (hz : X.N[k]? = some z := by rfl) (vz : Vis X.env.scope z := by first | exact Or.inl rfl | exact Or.inr (Or.inl rfl) | exact Or.inr (Or.inr rfl)) (dz : (z == ("__debug__" : Str)) = false := by decide) (cz : (z == ("__classdict__" : Str)) = false := by decide)
    (hb : attributeBase (.Name x p) f X.env (eval (.Name x p) X.env) = eval (.Name x p) X.env := by rfl)
    (n1 : starEach [.Name y p3, .Name z p4] X.env = (false, eval (.Name y p3) X.env) :: starEach [.Name z p4] X.env := by rfl) (n2 : starEach [.Name z p4] X.env = (false, eval (.Name z p4) X.env) :: starEach [] X.env := by rfl)
    (hs : swapsWith e (some (.Subscript (.Attribute (.Name x p) f apos) (.Tuple [.Name y p3, .Name z p4] x1 pos') p2)) pos.line X.env = pure false := by rfl) :
    SS X (.Assign [.Subscript (.Attribute (.Name x p) f apos) (.Tuple [.Name y p3, .Name z p4] x1 pos') p2] e pos) (S.dputf C f i j k ma) as := fun Wx tk =>
  (ps_dput hu (pe_fld (pv i hN hv hd hcd) hb) (key2 hy hz vy vz dy dz cy cz n1 n2) he hs).imp fun D σ H q => dputf_imp cl na q
theorem ss_dputv {x1} (i j k : Nat) (hu : X.A.units + 1 < cLine) (he : SE X e ma)
    (hN : X.N[i]? = some x := by rfl) (hv : Vis X.env.scope x := by first | exact Or.inl rfl | exact Or.inr (Or.inl rfl) | exact Or.inr (Or.inr rfl)) (hd : (x == ("__debug__" : Str)) = false := by decide) (hcd : (x == ("__classdict__" : Str)) = false := by decide)
    (hy : X.N[j]? = some y := by rfl) (vy : Vis X.env.scope y := by first | exact Or.inl rfl | exact Or.inr (Or.inl rfl) | exact Or.inr (Or.inr rfl)) (dy : (y == ("__debug__" : Str)) = false := by decide) (cy : (y == ("__classdict__" : Str)) = false := by decide)
    (hz : X.N[k]? = some z := by rfl) (vz : Vis X.env.scope z := by first | exact Or.inl rfl | exact Or.inr (Or.inl rfl) | exact Or.inr (Or.inr rfl)) (dz : (z == ("__debug__" : Str)) = false := by decide) (cz : (z == ("__classdict__" : Str)) = false := by decide)
    (n1 : starEach [.Name y p3, .Name z p4] X.env = (false, eval (.Name y p3) X.env) :: starEach [.Name z p4] X.env := by rfl) (n2 : starEach [.Name z p4] X.env = (false, eval (.Name z p4) X.env) :: starEach [] X.env := by rfl)
    (hs : swapsWith e (some (.Subscript (.Name x p) (.Tuple [.Name y p3, .Name z p4] x1 pos') p2)) pos.line X.env = pure false := by rfl) :
    SS X (.Assign [.Subscript (.Name x p) (.Tuple [.Name y p3, .Name z p4] x1 pos') p2] e pos) (S.dputv i j k ma) as := fun Wx tk =>
  (ps_dput hu (pv i hN hv hd hcd) (key2 hy hz vy vz dy dz cy cz n1 n2) he hs).imp fun D σ H q => dputv_imp q
theorem se_dgf {C : Addr} {f : Str} (i j : Nat) (hu : X.A.units + 1 < cLine) (cl : Cls X.K C) (na : NoAttr X.K C f)
    (hN : X.N[i]? = some x := by rfl) (hv : Vis X.env.scope x := by first | exact Or.inl rfl | exact Or.inr (Or.inl rfl) | exact Or.inr (Or.inr rfl)) (hd : (x == ("__debug__" : Str)) = false := by decide) (hcd : (x == ("__classdict__" : Str)) = false := by decide)
    (hy : X.N[j]? = some y := by rfl) (vy : Vis X.env.scope y := by first | exact Or.inl rfl | exact Or.inr (Or.inl rfl) | exact Or.inr (Or.inr rfl)) (dy : (y == ("__debug__" : Str)) = false := by decide) (cy : (y == ("__classdict__" : Str)) = false := by decide)
    (hb : attributeBase (.Name x p) f X.env (eval (.Name x p) X.env) = eval (.Name x p) X.env := by rfl) (hs : NoSl (.Name y p3) := by intro _ _; rfl) : SE X (.Subscript (.Attribute (.Name x p) f apos) (.Name y p3) pos) (E.dgf C f i j) :=
  (pe_dget hu (pe_fld (pv i hN hv hd hcd) hb) (pv j hy vy dy cy) hs).imp fun σ H Q q => dgf_imp cl na q
end
/-! ### a field of what was just made -/
def E.tfld (C : Addr) (f : Str) (m : EM) : EM := fun sl => (m sl).bind fun o sl => match o with
  | .tmp m => (match m.view with
    | .obj C' ns ds => if C' = C then fin ((fget f ns ds).map .val) sl else .stuck
    | _ => .stuck)
  | .pl _ => .stuck
theorem tfld_imp {K : PySem.W.Frag} {C : Addr} {f : Str} {σ : L2.St} {H : Hp} {ma : EM} {Q : VK} (cl : Cls K C) (na : NoAttr K C f) (q : tE K (E.tfld C f ma) σ H Q) : tUn (rFld K f) (tE K ma) σ H Q := by
  obtain ⟨O, W, sl, o, sl', x, e, q⟩ := tE_of q
  obtain ⟨o1, s1, e1, e2⟩ := bind_ok e
  refine tE_mk x e1 fun W1 f1 v H1 t1 x1 r1 n1 => ?_
  cases o1 with
  | pl _ => cases e2
  | tmp m =>
    cases r1 with
    | tmp r1 =>
      have rd : RD K (gr O W1 H1) m.view v := r1.frz (hid_less fun a h => h.elim (fun h => .inl (.inl h)) .inr) fun a ha o h => hid_some.mpr ⟨fun z => z.elim (n1 a ha) fun ⟨j, hj⟩ => x1.dis j a hj (.inr ha), h⟩
      simp only at e2
      generalize m.view = d at e2 rd
      cases d with
      | obj C' ns ds =>
        simp only at e2
        by_cases hc : C' = C
        · rw [if_pos hc] at e2
          subst hc
          obtain ⟨m', em, rfl, rfl⟩ := fin_ok e2
          obtain ⟨d, hd, rfl⟩ := map_some em
          cases rd with
          | obj h l r =>
            obtain ⟨y, ey, ry⟩ := fget_rd r hd
            refine ⟨_, C', _, _, y, rfl, (hid_some.mp h).2, cl, na, by rw [fget_lookup, ey], ?_⟩
            exact q W1 [] y H1 (t1.less fun a h => by simp at h) (x1.less fun a h => h.elim .inl fun h => by simp at h) (.tmp (.val (ry.up (hid_less fun b h => h.elim (fun h => h.elim .inl fun h => by simp at h) .inr)))) (fun a h => by simp at h)
        · rw [if_neg hc] at e2; cases e2
      | _ => cases e2
theorem se_tfld {X : Cx} {e : Expr} {pos : Pos} {ma : EM} {C : Addr} {f : Str} (cl : Cls X.K C) (na : NoAttr X.K C f) (h : SE X e ma) (hb : attributeBase e f X.env (eval e X.env) = eval e X.env := by rfl) : SE X (.Attribute e f pos) (E.tfld C f ma) :=
  (pe_fld h hb).imp fun σ H Q q => tfld_imp cl na q
/-! ### x.get(k, y) -/
def E.dgetd (mo mk mx : EM) : EM := fun sl => (mo sl).bind fun o sl => match o.view sl with
  | some (.dct _ _) => (mk sl).bind fun p sl => (mx sl).bind fun r sl => (match o.view sl, p.view sl with
    | some (.dct ks ds), some e => (match keyT e with
      | some k => (match dget ks ds k with
        | some d => .ok (.tmp (.val d)) sl
        | none => .ok r sl)
      | none => .stuck)
    | _, _ => .stuck)
  | _ => .stuck
theorem dgetd_imp {K : PySem.W.Frag} {mo mk mx : EM} {σ : L2.St} {H : Hp} {Q : VK} (q : tE K (E.dgetd mo mk mx) σ H Q) : tDGet2 (tE K mo) (tE K mk) (tE K mx) σ H Q := by
  obtain ⟨O, W, sl, o, sl', x, e, q⟩ := tE_of q
  obtain ⟨o1, s1, e1, e2⟩ := bind_ok e
  refine tE_mk x e1 fun W1 f1 v1 H1 t1 x1 r1 n1 => ?_
  split at e2
  · rename_i ks0 ds0 ev0
    obtain ⟨a, vs0, rfl, h0, _, _⟩ := rw_dct hid_same (r1.toW' x1 ev0)
    refine ⟨a, rfl, .inr ⟨_, .inl h0⟩, ?_⟩
    obtain ⟨o2, s2, e2, e3⟩ := bind_ok e2
    obtain ⟨o3, s3, e3, e4⟩ := bind_ok e3
    refine tE_mk x1 e2 fun W2 f2 v2 H2 t2 x2 r2 n2 => ?_
    refine tE_mk x2 e3 fun W3 f3 v3 H3 t3 x3 r3 n3 => ?_
    have r1a := r1.up x1 (fun a h => Or.inr h) t2 (O1 := plus (plus O f1) f2) (fun a h => h)
    have r1b := r1a.up x2 (fun a h => .inl (.inr h)) t3 (O1 := plus (plus (plus O f1) f2) f3) (fun a h => h)
    have r2b := r2.up x2 (fun a h => Or.inr h) t3 (O1 := plus (plus (plus O f1) f2) f3) (fun a h => h)
    split at e4
    · rename_i ks ds kd ev1 ev2
      cases hk : keyT kd with
      | none => rw [hk] at e4; cases e4
      | some k =>
        rw [hk] at e4
        simp only at e4
        obtain ⟨a', vs, ea, h1, l, r⟩ := rw_dct hid_same (r1b.toW' x3 ev1)
        cases ea
        obtain ⟨b, rfl, h2⟩ := key_plain hk (r2b.toW' x3 ev2)
        have g := DGet.t h1 h2
        rw [dget_val] at g
        refine ⟨_, g, ?_⟩
        cases hd : dget ks ds k with
        | some d =>
          rw [hd] at e4
          cases e4
          obtain ⟨y, ey, ry⟩ := (dget_rd r).1 d hd
          rw [ey]
          exact q W3 [] y H3 (((t1.trans t2).trans t3).less fun a h => by simp at h) (x3.less fun a h => h.elim (fun h => .inl (.inl (.inl h))) fun h => by simp at h)
            (.tmp (.val (ry.up (hid_less fun b h => h.elim (fun h => h.elim (fun h => .inl (.inl (.inl (.inl h)))) fun h => by simp at h) .inr)))) (fun a h => by simp at h)
        | none =>
          rw [hd] at e4
          cases e4
          rw [(dget_rd r).2 hd]
          have hG : Same (gr (plus (plus (plus O f1) f2) f3) W3 H3) (gr (plus O f3) W3 H3) := hid_less fun b h => h.elim (fun h => h.elim (fun h => .inl (.inl (.inl (.inl h)))) fun h => .inl (.inr h)) .inr
          refine q W3 f3 v3 H3 ((t1.trans t2).trans t3) (x3.less fun a h => h.elim (fun h => .inl (.inl (.inl h))) .inr) ?_ fun a ha z => n3 a ha (.inl (.inl z))
          cases r3 with
          | tmp r => exact .tmp (r.mono hG fun _ _ _ h => h)
          | pl e => exact .pl e
    · cases e4
  · cases e2
theorem se_dgetd {X : Cx} {o e f : Expr} {apos cpos : Pos} {mo mk mx : EM} (hu : X.A.units + 1 < cLine) (ho : SE X o mo) (he : SE X e mk) (hf : SE X f mx) (m : M2 X o "get" apos e f cpos := by exact ⟨rfl, rfl, rfl, rfl⟩) : SE X (.Call (.Attribute o "get" apos) [e, f] [] cpos) (E.dgetd mo mk mx) :=
  (pe_dget2 hu ho he hf m).imp fun σ H Q q => dgetd_imp q
/-! ### min(xs), xs data -/
def rMinDt (K : PySem.W.Frag) : List V → Hp → VK → Prop := fun vs H Q => ∃ (a : Addr) (ws : List V) (x : PyData) (xs : List PyData), vs = [V.ref a] ∧ SqL K H a ws ∧ DpAll K H ws (x :: xs) ∧ PySem.W.AlikeAll (x :: xs) ∧ PyData.depthAll (x :: xs) ≤ 60 ∧
  ∀ (i : Nat) v, ws[i]? = some v → (x :: xs)[i]? = some (PySem.W.minD x xs) → Q v H
theorem dpall_get {K : PySem.W.Frag} {H : Hp} : ∀ {vs : List V} {ds : List PyData} {i : Nat} {v : V}, DpAll K H vs ds → vs[i]? = some v → ∃ d, ds[i]? = some d ∧ Dp K H v d
  | [], _, _, _, _, e => by simp at e
  | w :: vs, _, 0, v, h, e => by
    cases h with
    | cons q r => simp at e; subst e; exact ⟨_, rfl, q⟩
  | w :: vs, _, i + 1, v, h, e => by
    cases h with
    | cons q r =>
      obtain ⟨d, h1, h2⟩ := dpall_get (i := i) r (by simpa using e)
      exact ⟨d, by simpa using h1, h2⟩
theorem cr_minDt {X : Cx} (hc : X.calm = true) (hu : X.A.units + 64 < cLine) : CallR X (.builtin "min") (rMinDt X.K) := by
  intro pins s σ H vs us Q I r h
  obtain ⟨a, ws, x, xs, rfl, hs, hd, ha, h60, q⟩ := h
  obtain ⟨its, rv, hl, _⟩ := I.list hs
  rw [Vals.ref1 r]
  obtain ⟨bs, hr⟩ := Dp.readsAll I _ _ _ hd rv
  refine PySem.W.min_list_data (I.ok.hd hc) hl.isList (by simpa using hr) ha (by omega) fun i v h' tk cs hv rd hk => ?_
  have hv : its[i]? = some v := by simpa using hv
  obtain ⟨w, hw, rw'⟩ : ∃ w, ws[i]? = some w ∧ RelV w v := by
    have hlen := rv.length
    have hi : i < ws.length := by rw [hlen]; exact (List.getElem?_eq_some_iff.mp hv).1
    obtain ⟨u, h1, h2⟩ := rv.get (List.getElem?_eq_getElem hi)
    rw [hv] at h1
    cases h1
    exact ⟨_, List.getElem?_eq_getElem hi, h2⟩
  obtain ⟨d, hd1, hd2⟩ := dpall_get hd hw
  obtain ⟨as', rd2⟩ := Dp.reads I _ _ _ hd2 rw'
  have e := (PyProof.Rows.reads_det (fun b o h _ => hk b o h) rd2 rd).1
  refine ⟨w, H, I.kept hk, rw', q i w hw ?_⟩
  rw [hd1, e]
end Sy
namespace Sy
open PySem PySem.Spec PyProof.Rows L2
/-! ### plain data and what it says -/
mutual
def plain : DV → Bool
  | .non => true
  | .bl _ => true
  | .int _ => true
  | .str _ => true
  | .tup xs => plains xs
  | .lst xs => plains xs
  | _ => false
def plains : List DV → Bool
  | [] => true
  | d :: ds => plain d && plains ds
end
mutual
def ofP : PyData → DV
  | .none => .non
  | .bool b => .bl b
  | .int i => .int i
  | .str x => .str x
  | .tuple xs => .tup (ofPs xs)
  | .list xs => .lst (ofPs xs)
  | .dict _ => .non
def ofPs : List PyData → List DV
  | [] => []
  | d :: ds => ofP d :: ofPs ds
end
mutual
theorem ofP_toP : ∀ d : DV, plain d = true → ofP (toP d) = d
  | .non, _ => rfl
  | .bl _, _ => rfl
  | .int _, _ => rfl
  | .str _, _ => rfl
  | .tup xs, h => by rw [toP, ofP, ofPs_toPs xs (by simpa [plain] using h)]
  | .lst xs, h => by rw [toP, ofP, ofPs_toPs xs (by simpa [plain] using h)]
  | .scr _, h => by simp [plain] at h
  | .ty _, h => by simp [plain] at h
  | .obj _ _ _, h => by simp [plain] at h
  | .xcp _ _ _ _, h => by simp [plain] at h
  | .dct _ _, h => by simp [plain] at h
theorem ofPs_toPs : ∀ ds : List DV, plains ds = true → ofPs (toPs ds) = ds
  | [], _ => rfl
  | d :: ds, h => by
    rw [plains, Bool.and_eq_true] at h
    rw [toPs, ofPs, ofP_toP d h.1, ofPs_toPs ds h.2]
end
mutual
theorem plain_isD : ∀ d : DV, plain d = true → isD d = true
  | .non, _ => rfl
  | .bl _, _ => rfl
  | .int _, _ => rfl
  | .str _, _ => rfl
  | .tup xs, h => by rw [isD]; exact plains_isDs xs (by simpa [plain] using h)
  | .lst xs, h => by rw [isD]; exact plains_isDs xs (by simpa [plain] using h)
  | .scr _, h => by simp [plain] at h
  | .ty _, h => by simp [plain] at h
  | .obj _ _ _, h => by simp [plain] at h
  | .xcp _ _ _ _, h => by simp [plain] at h
  | .dct _ _, h => by simp [plain] at h
theorem plains_isDs : ∀ ds : List DV, plains ds = true → isDs ds = true
  | [], _ => rfl
  | d :: ds, h => by
    rw [plains, Bool.and_eq_true] at h
    rw [isDs, plain_isD d h.1, plains_isDs ds h.2]
    rfl
end
theorem toPs_map : ∀ ds : List DV, toPs ds = ds.map toP
  | [] => rfl
  | d :: ds => by rw [toPs, toPs_map ds]; rfl
theorem plains_mem {ds : List DV} (h : plains ds = true) {d : DV} (hd : d ∈ ds) : plain d = true := by
  induction ds with
  | nil => simp at hd
  | cons e ds ih =>
    rw [plains, Bool.and_eq_true] at h
    rcases List.mem_cons.mp hd with rfl | hd
    · exact h.1
    · exact ih h.2 hd
open Classical in
noncomputable def minDt : List DV → Option MV
  | [.lst (d :: ds)] => if plains (d :: ds) = true ∧ PySem.W.AlikeAll (toPs (d :: ds)) ∧ PyData.depthAll (toPs (d :: ds)) ≤ 60 then some (.val (ofP (PySem.W.minD (toP d) (toPs ds)))) else none
  | _ => none
theorem b_minDt {K : PySem.W.Frag} : BL K (rMinDt K) minDt := fun P H xs ds m Q h al r q => by
  unfold minDt at h
  split at h
  · rename_i d ds
    by_cases hc : plains (d :: ds) = true ∧ PySem.W.AlikeAll (toPs (d :: ds)) ∧ PyData.depthAll (toPs (d :: ds)) ≤ 60
    · rw [if_pos hc] at h
      cases h
      obtain ⟨hp, ha, h60⟩ := hc
      obtain ⟨v, rfl, rv⟩ := rws1 r
      obtain ⟨p, vs, rfl, h1, r1⟩ := rw_lst hid_same rv
      refine ⟨p, vs, toP d, toPs ds, rfl, SqL.of h1, rds_dp hid_same _ _ (plains_isDs _ hp) r1, ha, h60, fun i v hv hx => ?_⟩
      have hlen := RDs.length r1
      have hi : i < (d :: ds).length := by rw [hlen]; exact (List.getElem?_eq_some_iff.mp hv).1
      obtain ⟨w, hw, rw'⟩ := r1.get (List.getElem?_eq_getElem hi)
      rw [hv] at hw
      cases hw
      have e : (toPs (d :: ds))[i]? = some (toP (d :: ds)[i]) := by rw [toPs_map, List.getElem?_map, List.getElem?_eq_getElem hi]; rfl
      rw [show toPs (d :: ds) = toP d :: toPs ds from rfl, hx] at e
      have e2 := Option.some.inj e
      rw [e2, ofP_toP _ (plains_mem hp (List.getElem_mem hi))] at q
      exact new_val q rw'
    · rw [if_neg hc] at h; cases h
  · cases h
/-- of data with a Lean type -/
theorem minDt_of {α : Type} [DecidableEq α] [PySem.W.DatumOrd α] (f : α → DV) (hf : ∀ a, plain (f a) = true ∧ toP (f a) = PySem.W.Datum.toD a) (x : α) (xs : List α) (hd : PySem.W.Datum.depth α ≤ 60) : minDt [.lst ((x :: xs).map f)] = some (.val (f (PySem.W.minOf x xs))) := by
  have hp : ∀ l : List α, plains (l.map f) = true := fun l => by
    induction l with
    | nil => rfl
    | cons a l ih => rw [List.map_cons, plains, (hf a).1, ih]; rfl
  have ht : ∀ l : List α, toPs (l.map f) = l.map PySem.W.Datum.toD := fun l => by
    rw [toPs_map, List.map_map]
    exact List.map_congr_left fun a _ => (hf a).2
  have hP := hp (x :: xs)
  have hT := ht (x :: xs)
  rw [List.map_cons] at hP hT ⊢
  simp only [minDt]
  have hdep : PyData.depthAll ((x :: xs).map PySem.W.Datum.toD) ≤ 60 := Nat.le_trans (PySem.W.depthAll_map (x :: xs)) hd
  rw [if_pos ⟨hP, by rw [hT]; exact PySem.W.alikeAll_datum (x :: xs), by rw [hT]; exact hdep⟩]
  rw [ht xs, (hf x).2, PySem.W.minD_map, ← (hf _).2, ofP_toP _ (hf _).1]
end Sy
namespace Sy
open PySem PySem.Spec PyProof.Rows L2
/-! ### running by simp: dicts -/
@[simp] theorem view_d {ks : List (List Key)} {ds : List DV} : (MV.dct ks ds).view = .dct ks ds := rfl
@[simp] theorem view_b {C : Addr} {ns : List Str} {ds : List DV} {f : Str} {ks : List (List Key)} {es : List DV} : (MV.bo C ns ds f ks es).view = .obj C (ns ++ [f]) (ds ++ [.dct ks es]) := rfl
@[simp] theorem E.dnew_eq {sl : Sl} : E.dnew sl = .ok (.tmp (.dct [] [])) sl := rfl
def setfdG (C : Addr) (f : Str) (i : Nat) (sl : Sl) : Option (Option MV) → SRes
  | some (some (.obj C' ns ds)) => if C' = C ∧ f ∉ ns ∧ ns.length < 900 then .nx (sl.set i (some (.bo C ns ds f [] []))) else .stuck
  | _ => .stuck
@[simp] theorem setfdG_s {C C' : Addr} {f : Str} {i : Nat} {sl : Sl} {ns : List Str} {ds : List DV} : setfdG C f i sl (some (some (.obj C' ns ds))) = if C' = C ∧ f ∉ ns ∧ ns.length < 900 then .nx (sl.set i (some (.bo C ns ds f [] []))) else .stuck := rfl
@[simp] theorem S.setfd_eq {C : Addr} {f : Str} {i : Nat} {sl : Sl} : S.setfd C f i sl = setfdG C f i sl sl[i]? := by
  unfold S.setfd setfdG
  all_goals rfl
@[simp] theorem keyK_i {i : Int} : keyK (.int i) = some (.inl i) := rfl
@[simp] theorem keyK_s {i : Str} : keyK (.str i) = some (.inr i) := rfl
@[simp] theorem keyKs_is {i : Int} {s : Str} : keyKs [.int i, .str s] = some [.inl i, .inr s] := rfl
@[simp] theorem keyT_t {ds : List DV} : keyT (.tup ds) = keyKs ds := rfl
def keyG : Option (Option MV) → Option Key
  | some (some (.val d)) => keyK d
  | _ => none
@[simp] theorem keyG_s {d : DV} : keyG (some (some (.val d))) = keyK d := rfl
@[simp] theorem keyAt_eq {sl : Sl} {j : Nat} : keyAt sl j = keyG sl[j]? := by
  unfold keyAt keyG
  all_goals rfl
noncomputable def dputG (C : Addr) (f : Str) (i : Nat) (d : DV) (sl : Sl) : Option (Option MV) → Option Key → Option Key → SRes
  | some (some (.bo C' ns ds f' ks es)), some kj, some kk => if C' = C ∧ f' = f ∧ f ∉ ns ∧ dget ks es [kj, kk] = none ∧ fewK ks.length then .nx (sl.set i (some (.bo C ns ds f (ks ++ [[kj, kk]]) (es ++ [d])))) else .stuck
  | _, _, _ => .stuck
@[simp] theorem dputG_s {C C' : Addr} {f f' : Str} {i : Nat} {d : DV} {sl : Sl} {ns : List Str} {ds es : List DV} {ks : List (List Key)} {kj kk : Key} : dputG C f i d sl (some (some (.bo C' ns ds f' ks es))) (some kj) (some kk) =
    if C' = C ∧ f' = f ∧ f ∉ ns ∧ dget ks es [kj, kk] = none ∧ fewK ks.length then .nx (sl.set i (some (.bo C ns ds f (ks ++ [[kj, kk]]) (es ++ [d])))) else .stuck := rfl
noncomputable def dputP (C : Addr) (f : Str) (i j k : Nat) : Option (DV × Sl) → SRes
  | some (d, sl) => dputG C f i d sl sl[i]? (keyAt sl j) (keyAt sl k)
  | none => .stuck
@[simp] theorem dputP_s {C : Addr} {f : Str} {i j k : Nat} {d : DV} {sl : Sl} : dputP C f i j k (some (d, sl)) = dputG C f i d sl sl[i]? (keyAt sl j) (keyAt sl k) := rfl
noncomputable def Res.dputf (r : Res Op) (C : Addr) (f : Str) (i j k : Nat) : SRes := r.s fun o sl => dputP C f i j k (settle1 o sl)
@[simp] theorem Res.dputf_ok {o : Op} {sl : Sl} {C : Addr} {f : Str} {i j k : Nat} : (Res.ok o sl).dputf C f i j k = dputP C f i j k (settle1 o sl) := rfl
@[simp] theorem S.dputf_eq {C : Addr} {f : Str} {i j k : Nat} {m : EM} {sl : Sl} : S.dputf C f i j k m sl = (m sl).dputf C f i j k := by
  unfold S.dputf Res.dputf dputP dputG
  first | done | (cases m sl <;> rfl)
noncomputable def dputGv (i : Nat) (d : DV) (sl : Sl) : Option (Option MV) → Option Key → Option Key → SRes
  | some (some (.dct ks es)), some kj, some kk => if dget ks es [kj, kk] = none ∧ fewK ks.length then .nx (sl.set i (some (.dct (ks ++ [[kj, kk]]) (es ++ [d])))) else .stuck
  | _, _, _ => .stuck
@[simp] theorem dputGv_s {i : Nat} {d : DV} {sl : Sl} {es : List DV} {ks : List (List Key)} {kj kk : Key} : dputGv i d sl (some (some (.dct ks es))) (some kj) (some kk) = if dget ks es [kj, kk] = none ∧ fewK ks.length then .nx (sl.set i (some (.dct (ks ++ [[kj, kk]]) (es ++ [d])))) else .stuck := rfl
noncomputable def dputPv (i j k : Nat) : Option (DV × Sl) → SRes
  | some (d, sl) => dputGv i d sl sl[i]? (keyAt sl j) (keyAt sl k)
  | none => .stuck
@[simp] theorem dputPv_s {i j k : Nat} {d : DV} {sl : Sl} : dputPv i j k (some (d, sl)) = dputGv i d sl sl[i]? (keyAt sl j) (keyAt sl k) := rfl
noncomputable def Res.dputv (r : Res Op) (i j k : Nat) : SRes := r.s fun o sl => dputPv i j k (settle1 o sl)
@[simp] theorem Res.dputv_ok {o : Op} {sl : Sl} {i j k : Nat} : (Res.ok o sl).dputv i j k = dputPv i j k (settle1 o sl) := rfl
@[simp] theorem S.dputv_eq {i j k : Nat} {m : EM} {sl : Sl} : S.dputv i j k m sl = (m sl).dputv i j k := by
  unfold S.dputv Res.dputv dputPv dputGv
  first | done | (cases m sl <;> rfl)
def dgfR (sl : Sl) : Option DV → Res Op
  | some d => .ok (.tmp (.val d)) sl
  | none => .stuck
@[simp] theorem dgfR_s {sl : Sl} {d : DV} : dgfR sl (some d) = .ok (.tmp (.val d)) sl := rfl
def dgfG (C : Addr) (f : Str) (sl : Sl) : Option (Option MV) → Option (Option MV) → Res Op
  | some (some (.bo C' ns ds f' ks es)), some (some (.val e)) => if C' = C ∧ f' = f ∧ f ∉ ns then dgfR sl ((keyT e).bind (dget ks es)) else .stuck
  | _, _ => .stuck
@[simp] theorem dgfG_s {C C' : Addr} {f f' : Str} {sl : Sl} {ns : List Str} {ds es : List DV} {ks : List (List Key)} {e : DV} : dgfG C f sl (some (some (.bo C' ns ds f' ks es))) (some (some (.val e))) = if C' = C ∧ f' = f ∧ f ∉ ns then dgfR sl ((keyT e).bind (dget ks es)) else .stuck := rfl
@[simp] theorem E.dgf_eq {C : Addr} {f : Str} {i j : Nat} {sl : Sl} : E.dgf C f i j sl = dgfG C f sl sl[i]? sl[j]? := by
  unfold E.dgf dgfG dgfR
  all_goals rfl
def tfldV (C : Addr) (f : Str) (sl : Sl) : DV → Res Op
  | .obj C' ns ds => if C' = C then fin ((fget f ns ds).map .val) sl else .stuck
  | _ => .stuck
@[simp] theorem tfldV_s {C C' : Addr} {f : Str} {sl : Sl} {ns : List Str} {ds : List DV} : tfldV C f sl (.obj C' ns ds) = if C' = C then fin ((fget f ns ds).map .val) sl else .stuck := rfl
def tfldO (C : Addr) (f : Str) (sl : Sl) : Op → Res Op
  | .tmp m => tfldV C f sl m.view
  | .pl _ => .stuck
@[simp] theorem tfldO_s {C : Addr} {f : Str} {sl : Sl} {m : MV} : tfldO C f sl (.tmp m) = tfldV C f sl m.view := rfl
def Res.tfld (r : Res Op) (C : Addr) (f : Str) : Res Op := r.bind fun o sl => tfldO C f sl o
@[simp] theorem Res.tfld_ok {o : Op} {sl : Sl} {C : Addr} {f : Str} : (Res.ok o sl).tfld C f = tfldO C f sl o := rfl
@[simp] theorem E.tfld_eq {C : Addr} {f : Str} {m : EM} {sl : Sl} : E.tfld C f m sl = (m sl).tfld C f := by
  unfold E.tfld Res.tfld tfldO tfldV
  first | done | (cases m sl <;> rfl)
def dgd6 (r : Op) (sl : Sl) : Option DV → Res Op
  | some d => .ok (.tmp (.val d)) sl
  | none => .ok r sl
@[simp] theorem dgd6_s {r : Op} {sl : Sl} {d : DV} : dgd6 r sl (some d) = .ok (.tmp (.val d)) sl := rfl
@[simp] theorem dgd6_n {r : Op} {sl : Sl} : dgd6 r sl none = .ok r sl := rfl
def dgd5 (r : Op) (sl : Sl) (ks : List (List Key)) (ds : List DV) : Option (List Key) → Res Op
  | some k => dgd6 r sl (dget ks ds k)
  | none => .stuck
@[simp] theorem dgd5_s {r : Op} {sl : Sl} {ks : List (List Key)} {ds : List DV} {k : List Key} : dgd5 r sl ks ds (some k) = dgd6 r sl (dget ks ds k) := rfl
def dgd4 (r : Op) (sl : Sl) : Option DV → Option DV → Res Op
  | some (.dct ks ds), some e => dgd5 r sl ks ds (keyT e)
  | _, _ => .stuck
@[simp] theorem dgd4_s {r : Op} {sl : Sl} {ks : List (List Key)} {ds : List DV} {e : DV} : dgd4 r sl (some (.dct ks ds)) (some e) = dgd5 r sl ks ds (keyT e) := rfl
def Res.dgd3 (x : Res Op) (o p : Op) : Res Op := x.bind fun r sl => dgd4 r sl (o.view sl) (p.view sl)
@[simp] theorem Res.dgd3_ok {r o p : Op} {sl : Sl} : (Res.ok r sl).dgd3 o p = dgd4 r sl (o.view sl) (p.view sl) := rfl
def Res.dgd2 (x : Res Op) (o : Op) (mx : EM) : Res Op := x.bind fun p sl => (mx sl).dgd3 o p
@[simp] theorem Res.dgd2_ok {o p : Op} {sl : Sl} {mx : EM} : (Res.ok p sl).dgd2 o mx = (mx sl).dgd3 o p := rfl
def dgd1 (o : Op) (mk mx : EM) (sl : Sl) : Option DV → Res Op
  | some (.dct _ _) => (mk sl).dgd2 o mx
  | _ => .stuck
@[simp] theorem dgd1_s {o : Op} {mk mx : EM} {sl : Sl} {ks : List (List Key)} {ds : List DV} : dgd1 o mk mx sl (some (.dct ks ds)) = (mk sl).dgd2 o mx := rfl
def Res.dgd (x : Res Op) (mk mx : EM) : Res Op := x.bind fun o sl => dgd1 o mk mx sl (o.view sl)
@[simp] theorem Res.dgd_ok {o : Op} {sl : Sl} {mk mx : EM} : (Res.ok o sl).dgd mk mx = dgd1 o mk mx sl (o.view sl) := rfl
@[simp] theorem E.dgetd_eq {mo mk mx : EM} {sl : Sl} : E.dgetd mo mk mx sl = (mo sl).dgd mk mx := by
  unfold E.dgetd Res.dgd dgd1 Res.dgd2 Res.dgd3 dgd4 dgd5 dgd6
  first | done | (cases mo sl <;> rfl)
@[simp] theorem dixD_t {ks : List (List Key)} {ds kd : List DV} : dixD (.dct ks ds) (.tup kd) = (keyKs kd).bind fun k => (dget ks ds k).map MV.val := rfl
end Sy
namespace Sy
open PySem PySem.Spec PyProof.Rows L2
/-! ### the lines that can be -/
noncomputable def b_lbegin : SM := (S.seq (S.ife (T.val (E.bin eqD (E.var 1) (E.c (.int 0)))) (S.ret 2 (E.lst (A.cons (E.c (.str "first")) A.nil))) S.nil)
    (S.seq (S.ife (T.and (T.val (E.bin gtD (E.var 1) (E.c (.int 1)))) (T.val (E.bin eqD (E.bin ixD (E.var 0) (E.bin subD (E.var 1) (E.c (.int 1)))) (E.c (.int 0))))) (S.ret 2 (E.lst (A.cons (E.c (.str "on")) (A.cons (E.c (.str "joined")) A.nil)))) S.nil)
    (S.ret 2 (E.lst (A.cons (E.c (.str "joined")) A.nil)))))
noncomputable def r_lbegin : FM := fn 2 0 [] b_lbegin
noncomputable def b_endsof (C D : Addr) : SM := (S.seq (S.unp (.tp [(.nm 4), (.nm 5)]) (E.var 3))
    (S.seq (S.asg 6 (E.bin subD (E.un (fldD D "width") (E.var 0)) (E.app lenD (A.cons (E.call 3 (r_begin C D) (A.cons (E.var 0) (A.cons (E.var 1) (A.cons (E.var 5) A.nil)))) A.nil))))
    (S.ret 4 (E.bin lrngD (E.bin addD (E.var 4) (E.c (.int 1))) (E.bin addD (E.app min2D (A.cons (E.app lenD (A.cons (E.var 2) A.nil)) (A.cons (E.bin addD (E.var 4) (E.var 6)) A.nil))) (E.c (.int 1)))))))
noncomputable def r_endsof (C D : Addr) : FM := fn 4 3 [4, 5, 6] (b_endsof C D)
noncomputable def b_jcost : SM := (S.seq (S.ife (T.val (E.bin eqD (E.var 0) (E.c (.str "joined")))) (S.ret 1 (E.c (.int 50))) S.nil)
    (S.ret 1 (E.c (.int 0))))
noncomputable def r_jcost : FM := fn 1 0 [] b_jcost
noncomputable def b_lineat (C D : Addr) : SM := (S.seq (S.unp (.tp [(.nm 5), (.nm 6)]) (E.var 3))
    (S.ret 5 (E.bin addD (E.call 3 (r_begin C D) (A.cons (E.var 0) (A.cons (E.var 1) (A.cons (E.var 6) A.nil)))) (E.app tupleD (A.cons (E.slc slD (E.var 2) (OP.some (E.var 5)) (OP.some (E.var 4))) A.nil)))))
noncomputable def r_lineat (C D : Addr) : FM := fn 5 2 [5, 6] (b_lineat C D)
noncomputable def b_waysat : SM := (S.seq (S.ife (T.val (E.bin eqD (E.var 1) (E.c (.int 0)))) (S.ret 2 (E.lst (A.cons (E.c (.str "first")) A.nil))) S.nil)
    (S.seq (S.ife (T.and (T.val (E.bin geD (E.var 1) (E.c (.int 2)))) (T.val (E.bin eqD (E.bin ixD (E.var 0) (E.bin subD (E.var 1) (E.c (.int 1)))) (E.c (.int 0))))) (S.ret 2 (E.lst (A.cons (E.c (.str "on")) (A.cons (E.c (.str "joined")) A.nil)))) S.nil)
    (S.ret 2 (E.lst (A.cons (E.c (.str "joined")) A.nil)))))
noncomputable def r_waysat : FM := fn 2 0 [] b_waysat
section
variable {C D : Addr} {w : Int} {g : Nat → Bool} {M row : List Int}
theorem begV (C D : Addr) (w : Int) (g : Nat → Bool) (M : List Int) (y : Way) : r_begin C D [.val (shD C D w g), .val (.tup (M.map DV.int)), .val (.str y.s)] = .ok (.val (.tup ((begL M g y).map DV.int))) [.val (shD C D w g), .val (.tup (M.map DV.int)), .val (.str y.s)] := by
  have h1 := way_first y
  have h2 := way_on y
  generalize hM : M.map DV.int = T at *
  cases y with
  | first => simp only [begL, hM]; simp [r_begin, b_begin, h1]
  | on => simp [r_begin, b_begin, h1, h2, begL, mD]
  | joined => simp [r_begin, b_begin, h1, h2, begL, mD]
theorem lncV (C D : Addr) (g : Nat → Bool) (L : List Int) (hw : 0 ≤ w) (hw2 : w ≤ 1000) (hL : L.length ≤ 1000) : r_lncost C D [.val (shD C D w g), .val (.tup (L.map DV.int))] = .ok (.val (.int ((w - L.length) ^ 2))) [.val (shD C D w g), .val (.tup (L.map DV.int))] := by
  have hl : (L.map DV.int).length = L.length := by simp
  have g1 : (w - (L.length : Int)).natAbs < 18446744073709551616 := by omega
  rw [← hl] at g1 ⊢
  generalize L.map DV.int = T at *
  simp [r_lncost, b_lncost, g1]
theorem beg5 (hM : M.length ≤ 5) (y : Way) : (begL M g y).length ≤ 5 := by
  cases y
  · exact hM
  · simp [begL, mrow]; split <;> simp
  · simp [begL, mrow]; split <;> simp
def endsP (w : Int) (g : Nat → Bool) (M : List Int) (n : Nat) (c : Nat) (y : Way) : List Nat := List.range' (c + 1) (min n (c + (w - ((begL M g y).length : Int)).toNat) - c)
theorem endsof_ok (C D : Addr) (hw : 8 ≤ w) (hw2 : w ≤ 40) (hM : M.length ≤ 5) (hr : row.length ≤ 1000) {c : Nat} (hc : c ≤ row.length) (y : Way) : r_endsof C D [.val (shD C D w g), .val (.tup (M.map DV.int)), .val (.lst (row.map DV.int)), .val (plD (c, y))] =
    .ok (.lst (NI (endsP w g M row.length c y))) [.val (shD C D w g), .val (.tup (M.map DV.int)), .val (.lst (row.map DV.int)), .val (plD (c, y))] := by
  have hb := begV C D w g M y
  have hl := beg5 (g := g) hM y
  have hlb : (((begL M g y).map DV.int).length : Int) = ((begL M g y).length : Int) := by simp
  have hlr : ((row.map DV.int).length : Int) = (row.length : Int) := by simp
  have hE : ups ((c : Int) + 1) ((if (c : Int) + (w - ((begL M g y).length : Int)) < (row.length : Int) then (c : Int) + (w - ((begL M g y).length : Int)) else (row.length : Int)) + 1 - ((c : Int) + 1)) = NI (endsP w g M row.length c y) := by
    unfold endsP
    rw [← ups_range']
    congr 1
    split <;> omega
  obtain ⟨z, hz⟩ : ∃ z : Int, z = (if (c : Int) + (w - ((begL M g y).length : Int)) < (row.length : Int) then (c : Int) + (w - ((begL M g y).length : Int)) else (row.length : Int)) := ⟨_, rfl⟩
  have hz0 : 0 ≤ z ∧ z ≤ 2000 := by rw [hz]; split <;> omega
  rw [← hz] at hE
  have k1 : smallR ((c : Int) + 1) (z + 1) := by unfold smallR; omega
  rw [← hlb, ← hlr] at hz
  rw [← hE]
  simp only [plD]
  generalize (begL M g y).map DV.int = TB at *
  generalize M.map DV.int = TM at *
  generalize row.map DV.int = TR at *
  simp [r_endsof, b_endsof, hb, ← hz, k1]
theorem ends_bd2 (hw : 8 ≤ w) (hM : M.length ≤ 5) {n c e : Nat} {y : Way} (h : e ∈ endsP w g M n c y) : c < e ∧ e ≤ n ∧ ((begL M g y).length : Int) + (e - c) ≤ w := by
  unfold endsP at h
  rw [List.mem_range'] at h
  obtain ⟨i, hi, rfl⟩ := h
  have := beg5 (g := g) hM y
  omega
theorem ends_ne (hw : 8 ≤ w) (hM : M.length ≤ 5) {n c : Nat} (hc : c < n) (y : Way) : c + 1 ∈ endsP w g M n c y := by
  unfold endsP
  rw [List.mem_range']
  have := beg5 (g := g) hM y
  exact ⟨0, by omega, by omega⟩
def lineL (g : Nat → Bool) (M row : List Int) (p : Nat × Way) (e : Nat) : List Int := begL M g p.2 ++ (row.drop p.1).take (e - p.1)
theorem lineat_ok (C D : Addr) (w : Int) (hM : M.length ≤ 5) (hr : row.length ≤ 1000) (p : Nat × Way) (e : Nat) : r_lineat C D [.val (shD C D w g), .val (.tup (M.map DV.int)), .val (.lst (row.map DV.int)), .val (plD p), .val (.int e)] =
    .ok (.val (.tup ((lineL g M row p e).map DV.int))) [.val (shD C D w g), .val (.tup (M.map DV.int)), .val (.lst (row.map DV.int)), .val (plD p), .val (.int e)] := by
  obtain ⟨c, y⟩ := p
  have hb := begV C D w g M y
  have hl := beg5 (g := g) hM y
  have hcut : cutL (row.map DV.int) (some (c : Int)) (some (e : Int)) = ((row.drop c).take (e - c)).map DV.int := by rw [cutL_mid, List.map_take, List.map_drop]
  have e9 : (lineL g M row (c, y) e).map DV.int = (begL M g y).map DV.int ++ ((row.drop c).take (e - c)).map DV.int := by simp [lineL]
  have g1 : ((begL M g y).map DV.int).length + (((row.drop c).take (e - c)).map DV.int).length ≤ sizeLine := le_size (by simp; omega)
  rw [e9]
  simp only [plD]
  generalize ((row.drop c).take (e - c)).map DV.int = P at *
  generalize (begL M g y).map DV.int = TB at *
  generalize M.map DV.int = TM at *
  generalize row.map DV.int = TR at *
  simp [r_lineat, b_lineat, hb, hcut, g1]
def jcF (y : Way) : Int := if y = .joined then 50 else 0
theorem jcost_ok (y : Way) : r_jcost [.val (.str y.s)] = .ok (.val (.int (jcF y))) [.val (.str y.s)] := by
  have h := way_joined y
  unfold jcF
  by_cases hy : y = .joined
  · rw [decide_eq_true hy] at h
    rw [if_pos hy]
    simp [r_jcost, b_jcost, h]
  · rw [decide_eq_false hy] at h
    rw [if_neg hy]
    simp [r_jcost, b_jcost, h]
def wyD (y : Way) : DV := .str y.s
def wysL (row : List Int) (c : Nat) : List Way := if c = 0 then [.first] else if 2 ≤ c ∧ pat row (c - 1) = 0 then [.on, .joined] else [.joined]
theorem waysat_ok {c : Nat} (hc : c ≤ row.length) : r_waysat [.val (.lst (row.map DV.int)), .val (.int c)] = .ok (.lst ((wysL row c).map wyD)) [.val (.lst (row.map DV.int)), .val (.int c)] := by
  by_cases h0 : c = 0
  · subst h0
    simp only [Int.ofNat_zero]
    generalize row.map DV.int = T
    simp [r_waysat, b_waysat, wysL, wyD, Way.s]
  · have h0' : ¬ (c : Int) = 0 := by omega
    by_cases h2 : 2 ≤ c
    · have h2' : (2 : Int) ≤ (c : Int) := by omega
      have a := pat_at (ps := row) (n := c - 1) (by omega)
      rw [show ((c - 1 : Nat) : Int) = (c : Int) - 1 by omega] at a
      by_cases h3 : pat row (c - 1) = 0
      · have hw : wysL row c = [.on, .joined] := by unfold wysL; rw [if_neg h0, if_pos ⟨h2, h3⟩]
        rw [hw]
        generalize row.map DV.int = T at *
        simp [r_waysat, b_waysat, h0, h2', a, h3, wyD, Way.s]
      · have hw : wysL row c = [.joined] := by unfold wysL; rw [if_neg h0, if_neg (fun z : _ ∧ _ => h3 z.2)]
        rw [hw]
        generalize row.map DV.int = T at *
        simp [r_waysat, b_waysat, h0, h2', a, h3, wyD, Way.s]
    · have h2' : ¬ (2 : Int) ≤ (c : Int) := by omega
      have hw : wysL row c = [.joined] := by unfold wysL; rw [if_neg h0, if_neg (fun z : _ ∧ _ => h2 z.1)]
      rw [hw]
      generalize row.map DV.int = T at *
      simp [r_waysat, b_waysat, h0, h2', wyD, Way.s]
theorem lbegin_ok {c : Nat} (hc : c ≤ row.length) : r_lbegin [.val (.lst (row.map DV.int)), .val (.int c)] = .ok (.lst ((wysL row c).map wyD)) [.val (.lst (row.map DV.int)), .val (.int c)] := by
  by_cases h0 : c = 0
  · subst h0
    simp only [Int.ofNat_zero]
    generalize row.map DV.int = T
    simp [r_lbegin, b_lbegin, wysL, wyD, Way.s]
  · have h0' : ¬ (c : Int) = 0 := by omega
    by_cases h2 : 2 ≤ c
    · have h2' : (1 : Int) < (c : Int) := by omega
      have a := pat_at (ps := row) (n := c - 1) (by omega)
      rw [show ((c - 1 : Nat) : Int) = (c : Int) - 1 by omega] at a
      by_cases h3 : pat row (c - 1) = 0
      · have hw : wysL row c = [.on, .joined] := by unfold wysL; rw [if_neg h0, if_pos ⟨h2, h3⟩]
        rw [hw]
        generalize row.map DV.int = T at *
        simp [r_lbegin, b_lbegin, h0, h2', a, h3, wyD, Way.s]
      · have hw : wysL row c = [.joined] := by unfold wysL; rw [if_neg h0, if_neg (fun z : _ ∧ _ => h3 z.2)]
        rw [hw]
        generalize row.map DV.int = T at *
        simp [r_lbegin, b_lbegin, h0, h2', a, h3, wyD, Way.s]
    · have h2' : ¬ (1 : Int) < (c : Int) := by omega
      have hw : wysL row c = [.joined] := by unfold wysL; rw [if_neg h0, if_neg (fun z : _ ∧ _ => h2 z.1)]
      rw [hw]
      generalize row.map DV.int = T at *
      simp [r_lbegin, b_lbegin, h0, h2', wyD, Way.s]
/-- what can follow is a way at its cell -/
theorem fol_way {e : Nat} (h0 : 1 ≤ e) {p : Nat × Way} (h : p ∈ folL row e) : p.2 ∈ wysL row p.1 := by
  unfold folL at h
  rcases List.mem_cons.mp h with rfl | h
  · unfold wysL
    rw [if_neg (by omega)]
    split <;> simp
  · split at h
    · rename_i hc
      simp at h
      subst h
      unfold wysL
      rw [if_neg (by simp), if_pos ⟨by simp; omega, by simpa using hc.1⟩]
      simp
    · simp at h
end
end Sy
namespace Sy
open PySem PySem.Spec PyProof.Rows L2
/-! ### the least lines from a beginning on -/
noncomputable def l_bfrom_1 (B C D : Addr) : SM := (S.seq (S.unp (.tp [(.nm 6), (.nm 7)]) (E.dgf B "best" 0 5))
    (S.seq (S.asg 6 (E.bin addD (E.bin addD (E.var 6) (E.call 1 r_jcost (A.cons (E.bin ixD (E.var 5) (E.c (.int 1))) A.nil))) (E.call 2 (r_lncost C D) (A.cons (E.un (fldD B "shape") (E.var 0)) (A.cons (E.var 4) A.nil)))))
    (S.expr (E.mth appF 2 (A.cons (E.tup (A.cons (E.var 6) (A.cons (E.bin addD (E.tup (A.cons (E.var 4) A.nil)) (E.var 7)) A.nil))) A.nil)))))
noncomputable def l_bfrom_2 (B C D : Addr) : SM := (S.seq (S.asg 4 (E.call 5 (r_lineat C D) (A.cons (E.un (fldD B "shape") (E.var 0)) (A.cons (E.un (fldD B "mark") (E.var 0)) (A.cons (E.un (fldD B "row") (E.var 0)) (A.cons (E.var 1) (A.cons (E.var 3) A.nil)))))))
    (S.ife (T.val (E.bin eqD (E.var 3) (E.app lenD (A.cons (E.un (fldD B "row") (E.var 0)) A.nil)))) (S.expr (E.mth appF 2 (A.cons (E.tup (A.cons (E.c (.int 0)) (A.cons (E.tup (A.cons (E.var 4) A.nil)) A.nil))) A.nil))) (S.forr (I.lst (E.call 2 r_lfol (A.cons (E.un (fldD B "row") (E.var 0)) (A.cons (E.var 3) A.nil)))) (.nm 5) (l_bfrom_1 B C D))))
noncomputable def b_bfrom (B C D : Addr) : SM := (S.seq (S.asg 2 (E.lst A.nil))
    (S.seq (S.forr (I.lst (E.call 4 (r_endsof C D) (A.cons (E.un (fldD B "shape") (E.var 0)) (A.cons (E.un (fldD B "mark") (E.var 0)) (A.cons (E.un (fldD B "row") (E.var 0)) (A.cons (E.var 1) A.nil)))))) (.nm 3) (l_bfrom_2 B C D))
    (S.ret 2 (E.app minDt (A.cons (E.var 2) A.nil)))))
noncomputable def r_bfrom (B C D : Addr) : FM := fn 2 6 [2, 3, 4, 5, 6, 7] (b_bfrom B C D)
noncomputable def l_binit_1 (B C D : Addr) : SM := (S.dputf B "best" 0 4 5 (E.meth B "best_from" 2 (r_bfrom B C D) (E.var 0) (A.cons (E.tup (A.cons (E.var 4) (A.cons (E.var 5) A.nil))) A.nil)))
noncomputable def l_binit_2 (B C D : Addr) : SM := (S.forr (I.lst (E.call 2 r_waysat (A.cons (E.var 3) (A.cons (E.var 4) A.nil)))) (.nm 5) (l_binit_1 B C D))
noncomputable def b_binit (B C D : Addr) : SM := (S.seq (S.setf B "shape" 0 (E.var 1))
    (S.seq (S.setf B "mark" 0 (E.var 2))
    (S.seq (S.setf B "row" 0 (E.var 3))
    (S.seq (S.setfd B "best" 0)
    (S.forr (I.revR1 (E.app lenD (A.cons (E.var 3) A.nil))) (.nm 4) (l_binit_2 B C D))))))
noncomputable def r_binit (B C D : Addr) : FM := fn 4 2 [4, 5] (b_binit B C D)
noncomputable def l_mkprice_1 : SM := (S.seq (S.asg 6 (E.bin ixD (E.dgetd (E.var 3) (E.tup (A.cons (E.var 5) (A.cons (E.c (.str "first")) A.nil))) (E.dgetd (E.var 3) (E.tup (A.cons (E.var 5) (A.cons (E.c (.str "on")) A.nil))) (E.tup (A.cons (E.c (.int 0)) (A.cons (E.tup A.nil) A.nil))))) (E.c (.int 0))))
    (S.expr (E.mth appF 4 (A.cons (E.tup (A.cons (E.var 6) (A.cons (E.bin ixD (E.dgetd (E.var 3) (E.tup (A.cons (E.var 5) (A.cons (E.c (.str "joined")) A.nil))) (E.tup (A.cons (E.c (.int 0)) (A.cons (E.tup A.nil) A.nil)))) (E.c (.int 0))) A.nil))) A.nil))))
noncomputable def b_mkprice (B C D : Addr) : SM := (S.seq (S.asg 3 (E.tfld B "best" (E.make B 4 (r_binit B C D) (A.cons (E.var 0) (A.cons (E.var 1) (A.cons (E.var 2) A.nil))))))
    (S.seq (S.asg 4 (E.lst A.nil))
    (S.seq (S.forr (I.rng1 (A.cons (E.app lenD (A.cons (E.var 2) A.nil)) A.nil)) (.nm 5) l_mkprice_1)
    (S.ret 3 (E.var 4)))))
noncomputable def r_mkprice (B C D : Addr) : FM := fn 3 4 [3, 4, 5, 6] (b_mkprice B C D)
abbrev BV := Int × PySem.W.Tup (PySem.W.Tup Int)
def lnDV (l : PySem.W.Tup Int) : DV := .tup (l.items.map DV.int)
def bvD (v : BV) : DV := .tup [.int v.1, .tup (v.2.items.map lnDV)]
theorem plains_int : ∀ l : List Int, plains (l.map DV.int) = true
  | [] => rfl
  | a :: l => by rw [List.map_cons, plains, plains_int l]; rfl
theorem plains_ln : ∀ l : List (PySem.W.Tup Int), plains (l.map lnDV) = true
  | [] => rfl
  | a :: l => by rw [List.map_cons, plains, plains_ln l, lnDV, plain, plains_int]; rfl
theorem bv_ok (v : BV) : plain (bvD v) = true ∧ toP (bvD v) = PySem.W.Datum.toD v := by
  obtain ⟨c, l⟩ := v
  constructor
  · rw [bvD, plain, plains, plains, plains, plain, plain, plains_ln]
    all_goals rfl
  · rw [bvD, toP, toPs, toPs, toPs, toP, toP, toPs_map, List.map_map]
    show PyData.tuple [_, PyData.tuple _] = PyData.tuple [_, PyData.tuple _]
    congr 3
    congr 1
    refine List.map_congr_left fun a _ => ?_
    show toP (.tup _) = PyData.tuple _
    rw [toP, toPs_map, List.map_map]
    rfl
theorem minBV (x : BV) (xs : List BV) : minDt [.lst ((x :: xs).map bvD)] = some (.val (bvD (PySem.W.minOf x xs))) := minDt_of bvD bv_ok x xs (by decide)
def kOf (p : Nat × Way) : List Key := [.inl (p.1 : Int), .inr p.2.s]
theorem Way.s_inj {a b : Way} (h : a.s = b.s) : a = b := by
  obtain ⟨h1, h2, h3, h4, h5, h6⟩ := way_lit_ne
  cases a <;> cases b <;> simp_all [Way.s]
theorem kOf_inj {p q : Nat × Way} (h : kOf p = kOf q) : p = q := by
  unfold kOf at h
  simp only [List.cons.injEq, Sum.inl.injEq, Sum.inr.injEq, and_true] at h
  exact Prod.ext (by omega) (Way.s_inj h.2)
abbrev BA := List ((Nat × Way) × BV)
def ksA (A : BA) : List (List Key) := A.map fun x => kOf x.1
def esA (A : BA) : List DV := A.map fun x => bvD x.2
theorem dget_A : ∀ (A : BA) (q : Nat × Way), dget (ksA A) (esA A) (kOf q) = (A.lookup q).map bvD
  | [], q => rfl
  | (p, v) :: A, q => by
    show dget (kOf p :: ksA A) (bvD v :: esA A) (kOf q) = _
    unfold dget
    by_cases h : p = q
    · subst h
      rw [if_pos rfl, List.lookup_cons_self]
      rfl
    · rw [if_neg (fun e => h (kOf_inj e)), List.lookup_cons, dget_A A q]
      have : (q == p) = false := by simpa using fun e : q = p => h e.symm
      rw [this]
def lookB (A : BA) (q : Nat × Way) : BV := (A.lookup q).getD (0, ⟨[]⟩)
def stepB (w : Int) (L : List Int) (q : Nat × Way) (v : BV) : BV := (v.1 + jcF q.2 + (w - L.length) ^ 2, ⟨⟨L⟩ :: v.2.items⟩)
def candsE (w : Int) (g : Nat → Bool) (M row : List Int) (A : BA) (p : Nat × Way) (e : Nat) : List BV :=
  if e = row.length then [(0, ⟨[⟨lineL g M row p e⟩]⟩)] else (folL row e).map fun q => stepB w (lineL g M row p e) q (lookB A q)
def candsB (w : Int) (g : Nat → Bool) (M row : List Int) (A : BA) (p : Nat × Way) : List BV := (endsP w g M row.length p.1 p.2).flatMap (candsE w g M row A p)
def minB : List BV → BV
  | [] => (0, ⟨[]⟩)
  | x :: xs => PySem.W.minOf x xs
theorem minB_ok {l : List BV} (h : l ≠ []) : minDt [.lst (l.map bvD)] = some (.val (bvD (minB l))) := by
  cases l with
  | nil => exact absurd rfl h
  | cons x xs => exact minBV x xs
section
variable {B C D : Addr} {w : Int} {g : Nat → Bool} {M row : List Int} {A : BA}
abbrev selfB (B C D : Addr) (w : Int) (g : Nat → Bool) (M row : List Int) (A : BA) : MV := .bo B ["shape", "mark", "row"] [shD C D w g, .tup (M.map DV.int), .lst (row.map DV.int)] "best" (ksA A) (esA A)
theorem fldSh : fldV (shD C D w g) = some (.val (shD C D w g)) := rfl
theorem line_le (hM : M.length ≤ 5) (hr : row.length ≤ 900) (p : Nat × Way) (e : Nat) : (lineL g M row p e).length ≤ 1000 := by
  have := beg5 (g := g) hM p.2
  simp only [lineL, List.length_append, List.length_take, List.length_drop]
  omega
/-- one thing that follows -/
theorem bfrom1 (hw : 8 ≤ w) (hw2 : w ≤ 40) (L : List Int) (hL : L.length ≤ 1000) (p q : Nat × Way) (v : BV) (hv : A.lookup q = some v) (hv2 : v.2.items.length ≤ 1000) (acc : List BV) (hacc : acc.length ≤ 10000) (e x6 x7 : Option MV) :
    ∃ y6 y7, l_bfrom_1 B C D [some (selfB B C D w g M row A), some (.val (plD p)), some (.lst (acc.map bvD)), e, some (.val (.tup (L.map DV.int))), some (.val (plD q)), x6, x7] =
      .nx [some (selfB B C D w g M row A), some (.val (plD p)), some (.lst ((acc ++ [stepB w L q v]).map bvD)), e, some (.val (.tup (L.map DV.int))), some (.val (plD q)), y6, y7] := by
  obtain ⟨c, y⟩ := q
  obtain ⟨z, ls⟩ := v
  have hd := dget_A A (c, y)
  rw [hv] at hd
  have hj := jcost_ok y
  have hs := fldSh (C := C) (D := D) (w := w) (g := g)
  have hl := lncV C D (w := w) g L (by omega) (by omega) hL
  have hb : (acc ++ [stepB w L (c, y) (z, ls)]).map bvD = acc.map bvD ++ [.tup [.int (z + jcF y + (w - L.length) ^ 2), .tup (.tup (L.map DV.int) :: ls.items.map lnDV)]] := by
    rw [List.map_append]; rfl
  have ek : kOf (c, y) = [.inl (c : Int), .inr y.s] := rfl
  rw [ek] at hd
  have em : Option.map bvD (some (z, ls)) = some (.tup [.int z, .tup (ls.items.map lnDV)]) := rfl
  rw [em] at hd
  simp only [hb, plD, selfB]
  have z1 : (acc.map bvD).length ≤ 10000000 := by simp; omega
  have z2 : 1 + (ls.items.map lnDV).length ≤ sizeLine := le_size (by simp at hv2 ⊢; omega)
  generalize acc.map bvD = TA at *
  generalize ls.items.map lnDV = TL at *
  generalize M.map DV.int = TM at *
  generalize row.map DV.int = TR at *
  generalize ksA A = KS at *
  generalize esA A = ES at *
  generalize shD C D w g = SH at *
  generalize (w - (L.length : Int)) ^ 2 = P2 at *
  generalize L.map DV.int = TLL at *
  refine ⟨some (.val (.int (z + jcF y + P2))), some (.val (.tup TL)), ?_⟩
  simp [l_bfrom_1, hd, hj, hl, hs, z1, z2]
theorem lookB_of {A : BA} {q : Nat × Way} {v : BV} (h : A.lookup q = some v) : lookB A q = v := by unfold lookB; rw [h]; rfl
/-- all that follows an end -/
theorem bfromI (hw : 8 ≤ w) (hw2 : w ≤ 40) (L : List Int) (hL : L.length ≤ 1000) (p : Nat × Way) (e : Option MV) (hA : ∀ q v, A.lookup q = some v → v.2.items.length ≤ 1000) : ∀ (qs : List (Nat × Way)) (acc : List BV) (x5 x6 x7 : Option MV), (∀ q ∈ qs, (A.lookup q).isSome) → acc.length + qs.length ≤ 10000 →
    ∃ y5 y6 y7, loop (.nm 5) (l_bfrom_1 B C D) (qs.map plD) [some (selfB B C D w g M row A), some (.val (plD p)), some (.lst (acc.map bvD)), e, some (.val (.tup (L.map DV.int))), x5, x6, x7] =
      .nx [some (selfB B C D w g M row A), some (.val (plD p)), some (.lst ((acc ++ qs.map fun q => stepB w L q (lookB A q)).map bvD)), e, some (.val (.tup (L.map DV.int))), y5, y6, y7]
  | [], acc, x5, x6, x7, h, hz => ⟨x5, x6, x7, by simp [loop]⟩
  | q :: qs, acc, x5, x6, x7, h, hz => by
    obtain ⟨v, hv⟩ := Option.isSome_iff_exists.mp (h q (by simp))
    rw [List.length_cons] at hz
    obtain ⟨y6, y7, e1⟩ := bfrom1 (B := B) (C := C) (D := D) (w := w) (g := g) (M := M) (row := row) hw hw2 L hL p q v hv (hA _ _ hv) acc (by omega) e x6 x7
    obtain ⟨z5, z6, z7, e2⟩ := bfromI hw hw2 L hL p e hA qs (acc ++ [stepB w L q v]) (some (.val (plD q))) y6 y7 (fun r hr => h r (by simp [hr])) (by simp; omega)
    refine ⟨z5, z6, z7, ?_⟩
    rw [List.map_cons]
    unfold loop
    rw [bindP_nm, if_pos (by simp)]
    simp only [List.set_cons_succ, List.set_cons_zero]
    rw [e1]
    simp only
    rw [e2, List.map_cons, lookB_of hv, List.append_assoc]
    rfl
theorem fol_len {e : Nat} : (folL row e).length ≤ 2 := by unfold folL; split <;> simp
/-- one end -/
theorem bfrom2 (hw : 8 ≤ w) (hw2 : w ≤ 40) (hM : M.length ≤ 5) (hr : row.length ≤ 900) (p : Nat × Way) {k : Nat} (hk : k ≤ row.length) (hA : k < row.length → ∀ q ∈ folL row k, (A.lookup q).isSome) (hA2 : ∀ q v, A.lookup q = some v → v.2.items.length ≤ 1000) (acc : List BV) (hz : acc.length ≤ 9000) (x4 x5 x6 x7 : Option MV) :
    ∃ y4 y5 y6 y7, l_bfrom_2 B C D [some (selfB B C D w g M row A), some (.val (plD p)), some (.lst (acc.map bvD)), some (.val (.int k)), x4, x5, x6, x7] =
      .nx [some (selfB B C D w g M row A), some (.val (plD p)), some (.lst ((acc ++ candsE w g M row A p k).map bvD)), some (.val (.int k)), y4, y5, y6, y7] := by
  have hl := lineat_ok (g := g) (row := row) C D w hM (by omega) p k
  have hL := line_le (g := g) (M := M) (row := row) hM hr p k
  have hs := fldSh (C := C) (D := D) (w := w) (g := g)
  have hn : ((row.map DV.int).length : Int) = row.length := by simp
  unfold candsE
  by_cases hk2 : k = row.length
  · rw [if_pos hk2]
    have hk3 : (k : Int) = ((row.map DV.int).length : Int) := by omega
    have hb : (acc ++ [((0, ⟨[⟨lineL g M row p k⟩]⟩) : BV)]).map bvD = acc.map bvD ++ [.tup [.int 0, .tup [.tup ((lineL g M row p k).map DV.int)]]] := by rw [List.map_append]; rfl
    have z1 : (acc.map bvD).length ≤ 10000000 := by simp; omega
    simp only [hb, selfB]
    generalize acc.map bvD = TA at *
    generalize (lineL g M row p k).map DV.int = TL at *
    generalize M.map DV.int = TM at *
    generalize row.map DV.int = TR at *
    generalize ksA A = KS at *
    generalize esA A = ES at *
    generalize shD C D w g = SH at *
    generalize plD p = PP at *
    refine ⟨some (.val (.tup TL)), x5, x6, x7, ?_⟩
    simp [l_bfrom_2, hl, hs, ← hk3, z1]
  · rw [if_neg hk2]
    have hk3 : ¬ (k : Int) = ((row.map DV.int).length : Int) := by omega
    have hf := lfol_ok (m := .val (.lst (row.map DV.int))) (.inl rfl) (show k < row.length by omega)
    obtain ⟨y5, y6, y7, e⟩ := bfromI (B := B) (C := C) (D := D) (w := w) (g := g) (M := M) (row := row) hw hw2 _ hL p (some (.val (.int k))) hA2 (folL row k) acc x5 x6 x7 (hA (by omega)) (by have := fol_len (row := row) (e := k); omega)
    refine ⟨some (.val (.tup ((lineL g M row p k).map DV.int))), y5, y6, y7, ?_⟩
    rw [← e]
    simp only [selfB]
    generalize acc.map bvD = TA at *
    generalize (lineL g M row p k).map DV.int = TL at *
    generalize M.map DV.int = TM at *
    generalize row.map DV.int = TR at *
    generalize ksA A = KS at *
    generalize esA A = ES at *
    generalize shD C D w g = SH at *
    generalize plD p = PP at *
    generalize (folL row k).map plD = TF at *
    simp [l_bfrom_2, hl, hs, hk3, hf]
/-- all ends -/
theorem bfromE (hw : 8 ≤ w) (hw2 : w ≤ 40) (hM : M.length ≤ 5) (hr : row.length ≤ 900) (p : Nat × Way) (hA2 : ∀ q v, A.lookup q = some v → v.2.items.length ≤ 1000) : ∀ (ks : List Nat) (acc : List BV) (x3 x4 x5 x6 x7 : Option MV), (∀ k ∈ ks, k ≤ row.length ∧ (k < row.length → ∀ q ∈ folL row k, (A.lookup q).isSome)) → acc.length + 2 * ks.length ≤ 9000 →
    ∃ y3 y4 y5 y6 y7, loop (.nm 3) (l_bfrom_2 B C D) (NI ks) [some (selfB B C D w g M row A), some (.val (plD p)), some (.lst (acc.map bvD)), x3, x4, x5, x6, x7] =
      .nx [some (selfB B C D w g M row A), some (.val (plD p)), some (.lst ((acc ++ ks.flatMap (candsE w g M row A p)).map bvD)), y3, y4, y5, y6, y7]
  | [], acc, x3, x4, x5, x6, x7, h, hz => ⟨x3, x4, x5, x6, x7, by simp [loop, NI]⟩
  | k :: ks, acc, x3, x4, x5, x6, x7, h, hz => by
    rw [List.length_cons] at hz
    obtain ⟨hk, hA⟩ := h k (by simp)
    obtain ⟨y4, y5, y6, y7, e1⟩ := bfrom2 (B := B) (C := C) (D := D) (w := w) (g := g) (M := M) (row := row) hw hw2 hM hr p hk hA hA2 acc (by omega) x4 x5 x6 x7
    have hc : (candsE w g M row A p k).length ≤ 2 := by
      unfold candsE
      split
      · simp
      · rw [List.length_map]; exact fol_len
    obtain ⟨z3, z4, z5, z6, z7, e2⟩ := bfromE hw hw2 hM hr p hA2 ks (acc ++ candsE w g M row A p k) (some (.val (.int k))) y4 y5 y6 y7 (fun r hr => h r (by simp [hr])) (by simp; omega)
    refine ⟨z3, z4, z5, z6, z7, ?_⟩
    rw [show NI (k :: ks) = .int k :: NI ks from rfl]
    unfold loop
    rw [bindP_nm, if_pos (by simp)]
    simp only [List.set_cons_succ, List.set_cons_zero]
    rw [e1]
    simp only
    rw [e2, List.flatMap_cons, List.append_assoc]
/-- the lines that can be from a place on are there -/
def FulA (w : Int) (g : Nat → Bool) (M row : List Int) (A : BA) (p : Nat × Way) : Prop := ∀ k ∈ endsP w g M row.length p.1 p.2, k < row.length → ∀ q ∈ folL row k, (A.lookup q).isSome
theorem cands_ne (hw : 8 ≤ w) (hM : M.length ≤ 5) {p : Nat × Way} (hp : p.1 < row.length) : candsB w g M row A p ≠ [] := by
  have h := ends_ne (g := g) (w := w) hw hM hp p.2
  unfold candsB
  intro z
  rw [List.flatMap_eq_nil_iff] at z
  have := z _ h
  unfold candsE at this
  split at this
  · simp at this
  · simp [folL] at this
theorem endsP_len (hw : 8 ≤ w) (hw2 : w ≤ 40) {n c : Nat} {y : Way} : (endsP w g M n c y).length ≤ 40 := by
  unfold endsP
  rw [List.length_range']
  omega
theorem bfrom_ok (hw : 8 ≤ w) (hw2 : w ≤ 40) (hM : M.length ≤ 5) (hr : row.length ≤ 900) {p : Nat × Way} (hp : p.1 < row.length) (hA2 : ∀ q v, A.lookup q = some v → v.2.items.length ≤ 1000) (hF : FulA w g M row A p) :
    r_bfrom B C D [selfB B C D w g M row A, .val (plD p)] = .ok (.val (bvD (minB (candsB w g M row A p)))) [selfB B C D w g M row A, .val (plD p)] := by
  obtain ⟨c, y⟩ := p
  have he := endsof_ok (w := w) (g := g) (M := M) (row := row) C D hw hw2 hM (by omega) (c := c) (Nat.le_of_lt hp) y
  obtain ⟨y3, y4, y5, y6, y7, e⟩ := bfromE (B := B) (C := C) (D := D) (w := w) (g := g) (M := M) (row := row) hw hw2 hM hr (c, y) hA2 (endsP w g M row.length c y) [] none none none none none (fun k hk => ⟨(ends_bd2 hw hM hk).2.1, hF k hk⟩) (by have := endsP_len (g := g) (M := M) (n := row.length) (c := c) (y := y) hw hw2; simp; omega)
  rw [List.nil_append, List.map_nil] at e
  have hm := minB_ok (cands_ne (g := g) (A := A) (M := M) hw hM hp)
  have hs := fldSh (C := C) (D := D) (w := w) (g := g)
  change loop _ _ _ _ = SRes.nx [_, _, some (.lst ((candsB w g M row A (c, y)).map bvD)), _, _, _, _, _] at e
  simp only [selfB] at *
  generalize (candsB w g M row A (c, y)).map bvD = TC at *
  generalize bvD (minB (candsB w g M row A (c, y))) = BVV at *
  generalize M.map DV.int = TM at *
  generalize row.map DV.int = TR at *
  generalize ksA A = KS at *
  generalize esA A = ES at *
  generalize shD C D w g = SH at *
  generalize plD (c, y) = PP at *
  generalize NI (endsP w g M row.length c y) = TE at *
  simp [r_bfrom, b_bfrom, he, e, hm, hs]
end
end Sy
namespace Sy
open PySem PySem.Spec PyProof.Rows L2
/-! ### the dict of the least lines -/
section
variable {B C D : Addr} {w : Int} {g : Nat → Bool} {M row : List Int} {A : BA}
theorem look_app {A X : BA} {q : Nat × Way} {v : BV} (h : A.lookup q = some v) : (A ++ X).lookup q = some v := by
  induction A with
  | nil => simp at h
  | cons a A ih =>
    obtain ⟨p, u⟩ := a
    rw [List.cons_append, List.lookup_cons] at *
    split
    · rename_i hq; rw [hq] at h; exact h
    · rename_i hq; rw [hq] at h; exact ih h
theorem look_app2 {A X : BA} {q : Nat × Way} (h : A.lookup q = none) : (A ++ X).lookup q = X.lookup q := by
  induction A with
  | nil => rfl
  | cons a A ih =>
    obtain ⟨p, u⟩ := a
    rw [List.cons_append, List.lookup_cons] at *
    split
    · rename_i hq; rw [hq] at h; simp at h
    · rename_i hq; rw [hq] at h; exact ih h
theorem ful_app {X : BA} {q : Nat × Way} (h : FulA w g M row A q) : FulA w g M row (A ++ X) q := fun k hk hn r hr => by
  obtain ⟨v, e⟩ := Option.isSome_iff_exists.mp (h k hk hn r hr)
  rw [look_app e]; rfl
theorem lookB_app {X : BA} {q : Nat × Way} (h : (A.lookup q).isSome) : lookB (A ++ X) q = lookB A q := by
  obtain ⟨v, e⟩ := Option.isSome_iff_exists.mp h
  rw [lookB_of e, lookB_of (look_app e)]
theorem fm_congr {α β : Type} {f h : α → List β} : ∀ {l : List α}, (∀ a ∈ l, f a = h a) → l.flatMap f = l.flatMap h
  | [], _ => rfl
  | a :: l, e => by rw [List.flatMap_cons, List.flatMap_cons, e a (by simp), fm_congr fun b hb => e b (by simp [hb])]
theorem cands_app (hw : 8 ≤ w) (hM : M.length ≤ 5) {X : BA} {q : Nat × Way} (h : FulA w g M row A q) : candsB w g M row (A ++ X) q = candsB w g M row A q := by
  unfold candsB
  refine fm_congr fun k hk => ?_
  have hb := ends_bd2 hw hM hk
  unfold candsE
  split
  · rfl
  · refine List.map_congr_left fun r hr => ?_
    rw [lookB_app (h k hk (by omega) r hr)]
theorem minOf_mem {α : Type} [DecidableEq α] [PySem.W.DatumOrd α] : ∀ (xs : List α) (x : α), PySem.W.minOf x xs ∈ x :: xs
  | [], x => by simp [PySem.W.minOf]
  | y :: xs, x => by
    have h := minOf_mem xs (if PySem.W.DatumOrd.lt y x = true then y else x)
    have e : PySem.W.minOf x (y :: xs) = PySem.W.minOf (if PySem.W.DatumOrd.lt y x = true then y else x) xs := rfl
    rw [e]
    rcases List.mem_cons.mp h with h | h
    · rw [h]; split <;> simp
    · simp [h]
theorem minB_mem {l : List BV} (h : l ≠ []) : minB l ∈ l := by
  cases l with
  | nil => exact absurd rfl h
  | cons x xs => exact minOf_mem xs x
structure CB (w : Int) (g : Nat → Bool) (M row : List Int) (A : BA) (q : Nat × Way) (v : BV) : Prop where
  e : v = minB (candsB w g M row A q)
  f : FulA w g M row A q
  l : v.2.items.length + q.1 ≤ row.length
  n : q.1 < row.length
structure InvA (w : Int) (g : Nat → Bool) (M row : List Int) (A : BA) (S : Nat × Way → Prop) : Prop where
  full : ∀ q, S q → (A.lookup q).isSome
  cons : ∀ q v, A.lookup q = some v → S q ∧ CB w g M row A q v
theorem fol_mem2 {e : Nat} {p : Nat × Way} (h : p ∈ folL row e) : e ≤ p.1 := by
  unfold folL at h
  rcases List.mem_cons.mp h with rfl | h
  · exact Nat.le_refl _
  · split at h
    · simp at h
      subst h
      simp
    · simp at h
theorem len_ok (hw : 8 ≤ w) (hM : M.length ≤ 5) {S : Nat × Way → Prop} (hI : InvA w g M row A S) {p : Nat × Way} (hp : p.1 < row.length) (hF : FulA w g M row A p) : (minB (candsB w g M row A p)).2.items.length + p.1 ≤ row.length := by
  have h := minB_mem (cands_ne (g := g) (A := A) (M := M) hw hM hp)
  generalize minB (candsB w g M row A p) = v at *
  unfold candsB at h
  obtain ⟨k, hk, h⟩ := List.mem_flatMap.mp h
  have hb := ends_bd2 hw hM hk
  unfold candsE at h
  split at h
  · simp at h
    subst h
    simp
    omega
  · obtain ⟨q, hq, rfl⟩ := List.mem_map.mp h
    obtain ⟨v, e⟩ := Option.isSome_iff_exists.mp (hF k hk (by omega) q hq)
    have h2 := (hI.cons q v e).2.l
    have h3 := fol_mem2 hq
    rw [lookB_of e]
    simp only [stepB, List.length_cons]
    omega
theorem inv_put (hw : 8 ≤ w) (hM : M.length ≤ 5) {S : Nat × Way → Prop} (hI : InvA w g M row A S) {p : Nat × Way} (hp : p.1 < row.length) (hn : ¬ S p) (hF : FulA w g M row A p) :
    A.lookup p = none ∧ InvA w g M row (A ++ [(p, minB (candsB w g M row A p))]) fun q => S q ∨ q = p := by
  have h0 : A.lookup p = none := by
    cases e : A.lookup p with
    | none => rfl
    | some v => exact absurd (hI.cons p v e).1 hn
  refine ⟨h0, ?_, ?_⟩
  · rintro q (hq | rfl)
    · obtain ⟨v, e⟩ := Option.isSome_iff_exists.mp (hI.full q hq)
      rw [look_app e]; rfl
    · rw [look_app2 h0, List.lookup_cons_self]; rfl
  · intro q v e
    cases e1 : A.lookup q with
    | some u =>
      rw [look_app e1] at e
      cases e
      obtain ⟨h1, h2⟩ := hI.cons q v e1
      exact ⟨.inl h1, by rw [cands_app hw hM h2.f]; exact h2.e, ful_app h2.f, h2.l, h2.n⟩
    | none =>
      rw [look_app2 e1, List.lookup_cons] at e
      split at e
      · rename_i hq
        have hq : q = p := by simpa using hq
        subst hq
        cases e
        exact ⟨.inr rfl, by rw [cands_app hw hM hF], ful_app hF, len_ok hw hM hI hp hF, hp⟩
      · simp at e
/-- one way of a cell -/
theorem binit1 (hw : 8 ≤ w) (hw2 : w ≤ 40) (hM : M.length ≤ 5) (hr : row.length ≤ 900) {S : Nat × Way → Prop} (hI : InvA w g M row A S) (hA : A.length ≤ 5000) {p : Nat × Way} (hp : p.1 < row.length) (hn : ¬ S p) (hF : FulA w g M row A p) (x1 x2 x3 : Option MV) :
    l_binit_1 B C D [some (selfB B C D w g M row A), x1, x2, x3, some (.val (.int p.1)), some (.val (.str p.2.s))] = .nx [some (selfB B C D w g M row (A ++ [(p, minB (candsB w g M row A p))])), x1, x2, x3, some (.val (.int p.1)), some (.val (.str p.2.s))] := by
  obtain ⟨h0, hI2⟩ := inv_put hw hM hI hp hn hF
  have hb := bfrom_ok (B := B) (C := C) (D := D) hw hw2 hM hr hp (fun q v e => by have := (hI.cons q v e).2.l; omega) hF
  have hd := dget_A A p
  rw [h0] at hd
  have hk : fewK (ksA A).length := by unfold fewK; simp [ksA]; omega
  generalize minB (candsB w g M row A p) = v at *
  have ek : ksA (A ++ [(p, v)]) = ksA A ++ [kOf p] := by simp [ksA]
  have ee : esA (A ++ [(p, v)]) = esA A ++ [bvD v] := by simp [esA]
  simp only [selfB, ek, ee] at *
  obtain ⟨c, y⟩ := p
  simp only [plD, kOf] at *
  change dget (ksA A) (esA A) [_, _] = none at hd
  generalize bvD v = BVV at *
  generalize M.map DV.int = TM at *
  generalize row.map DV.int = TR at *
  generalize ksA A = KS at *
  generalize esA A = ES at *
  generalize shD C D w g = SH at *
  simp [l_binit_1, hb, hd, hk]
/-- the ways of a cell, in turn -/
theorem binit2 (hw : 8 ≤ w) (hw2 : w ≤ 40) (hM : M.length ≤ 5) (hr : row.length ≤ 900) {c : Nat} (hc : c < row.length) (x1 x2 x3 : Option MV) (hF : ∀ (A : BA) (S : Nat × Way → Prop) (y : Way), InvA w g M row A S → (∀ q, c < q.1 → q.1 < row.length → q.2 ∈ wysL row q.1 → S q) → FulA w g M row A (c, y)) :
    ∀ (ys : List Way) (A : BA) (S : Nat × Way → Prop) (x5 : Option MV), InvA w g M row A S → (∀ q, c < q.1 → q.1 < row.length → q.2 ∈ wysL row q.1 → S q) → A.length + ys.length ≤ 5000 → ys.Nodup → (∀ y ∈ ys, ¬ S (c, y)) →
    ∃ A' y5, loop (.nm 5) (l_binit_1 B C D) (ys.map wyD) [some (selfB B C D w g M row A), x1, x2, x3, some (.val (.int c)), x5] = .nx [some (selfB B C D w g M row A'), x1, x2, x3, some (.val (.int c)), y5] ∧ InvA w g M row A' (fun q => S q ∨ (q.1 = c ∧ q.2 ∈ ys)) ∧ A'.length = A.length + ys.length
  | [], A, S, x5, hI, hS, hl, hd, hn => by
    refine ⟨A, x5, by simp [loop], ?_, rfl⟩
    refine ⟨fun q hq => hI.full q (by simpa using hq), fun q v e => ⟨.inl (hI.cons q v e).1, (hI.cons q v e).2⟩⟩
  | y :: ys, A, S, x5, hI, hS, hl, hd, hn => by
    rw [List.length_cons] at hl
    rw [List.nodup_cons] at hd
    have hFp := hF A S y hI hS
    have h1 := binit1 (B := B) (C := C) (D := D) hw hw2 hM hr hI (by omega) (p := (c, y)) hc (hn y (by simp)) hFp x1 x2 x3
    obtain ⟨h0, hI2⟩ := inv_put hw hM hI (p := (c, y)) hc (hn y (by simp)) hFp
    generalize minB (candsB w g M row A (c, y)) = v at *
    obtain ⟨A', y5, e, h3, h4⟩ := binit2 hw hw2 hM hr hc x1 x2 x3 hF ys (A ++ [((c, y), v)]) _ (some (.val (.str y.s))) hI2 (fun q h1 h2 h3 => .inl (hS q h1 h2 h3)) (by simp; omega) hd.2 (fun z hz => by
      rintro (h | h)
      · exact hn z (by simp [hz]) h
      · cases h
        exact hd.1 hz)
    refine ⟨A', y5, ?_, ?_, by rw [h4]; simp; omega⟩
    · rw [List.map_cons]
      unfold loop
      rw [show wyD y = .str y.s from rfl, bindP_nm, if_pos (by simp)]
      simp only [List.set_cons_succ, List.set_cons_zero]
      rw [h1]
      simp only
      exact e
    · refine ⟨fun q hq => h3.full q ?_, fun q u e => ⟨?_, (h3.cons q u e).2⟩⟩
      · rcases hq with h | ⟨h, h'⟩
        · exact .inl (.inl h)
        · rcases List.mem_cons.mp h' with h' | h'
          · exact .inl (.inr (Prod.ext h h'))
          · exact .inr ⟨h, h'⟩
      · rcases (h3.cons q u e).1 with (h | h) | ⟨h, h'⟩
        · exact .inl h
        · subst h; exact .inr ⟨rfl, by simp⟩
        · exact .inr ⟨h, by simp [h']⟩
theorem wysL_nodup (c : Nat) : (wysL row c).Nodup ∧ (wysL row c).length ≤ 2 := by
  unfold wysL
  split
  · decide
  · split <;> decide
/-- what is in the dict when the cells from c on are done -/
abbrev DoneA (row : List Int) (c : Nat) (q : Nat × Way) : Prop := c ≤ q.1 ∧ q.1 < row.length ∧ q.2 ∈ wysL row q.1
theorem ful_done (hw : 8 ≤ w) (hM : M.length ≤ 5) {S : Nat × Way → Prop} {c : Nat} (hI : InvA w g M row A S) (hS : ∀ q, c < q.1 → q.1 < row.length → q.2 ∈ wysL row q.1 → S q) (y : Way) : FulA w g M row A (c, y) := fun k hk hn q hq => by
  have hb := ends_bd2 hw hM hk
  have h1 := fol_mem hn hq
  exact hI.full q (hS q (by simp at hb; omega) h1.1 (fol_way (by omega) hq))
theorem inv_eq {S T : Nat × Way → Prop} (h : InvA w g M row A S) (e : ∀ q, S q ↔ T q) : InvA w g M row A T := ⟨fun q hq => h.full q ((e q).mpr hq), fun q v x => ⟨(e q).mp (h.cons q v x).1, (h.cons q v x).2⟩⟩
theorem binit_loop (hw : 8 ≤ w) (hw2 : w ≤ 40) (hM : M.length ≤ 5) (hr : row.length ≤ 900) (x1 x2 : Option MV) :
    ∃ A y4 y5, loop (.nm 4) (l_binit_2 B C D) (dns ((row.length : Int) - 1) row.length) [some (selfB B C D w g M row []), x1, x2, some (.val (.lst (row.map DV.int))), none, none] = .nx [some (selfB B C D w g M row A), x1, x2, some (.val (.lst (row.map DV.int))), y4, y5] ∧ InvA w g M row A (DoneA row 0) := by
  obtain ⟨s, e, A, y4, y5, hA, hl, rfl⟩ := loop_inv (p := .nm 4) (b := l_binit_2 B C D) (fun k s => ∃ (A : BA) (y4 y5 : Option MV), InvA w g M row A (DoneA row (row.length - k)) ∧ A.length ≤ 2 * k ∧ s = [some (selfB B C D w g M row A), x1, x2, some (.val (.lst (row.map DV.int))), y4, y5]) (dns ((row.length : Int) - 1) row.length) 0 [some (selfB B C D w g M row []), x1, x2, some (.val (.lst (row.map DV.int))), none, none]
    ⟨[], none, none, ⟨fun q hq => by unfold DoneA at hq; omega, fun q v e => by simp at e⟩, by simp, rfl⟩ (by
    rintro i d s hd ⟨A, y4, y5, hI, hl, rfl⟩
    obtain ⟨rfl, hi⟩ := dns_get hd
    rw [Nat.zero_add] at hI hl
    have hi' : i < row.length := by omega
    obtain ⟨c, hc⟩ : ∃ c : Nat, c = row.length - 1 - i := ⟨_, rfl⟩
    have hci : ((row.length : Int) - 1 - (i : Nat)) = (c : Int) := by omega
    rw [hci]
    have hS : ∀ q : Nat × Way, c < q.1 → q.1 < row.length → q.2 ∈ wysL row q.1 → DoneA row (row.length - i) q := fun q h1 h2 h3 => ⟨by omega, h2, h3⟩
    obtain ⟨A', z5, e, h3, h4⟩ := binit2 (B := B) (C := C) (D := D) hw hw2 hM hr (c := c) (by omega) x1 x2 (some (.val (.lst (row.map DV.int)))) (fun A S y hI hS => ful_done hw hM hI hS y) (wysL row c) A _ y5 hI hS (by have := (wysL_nodup (row := row) c).2; omega) (wysL_nodup c).1 (fun y _ h => by have := h.1; simp at this; omega)
    refine ⟨_, _, by rw [bindP_nm, if_pos (by simp)], .inl ?_, A', some (.val (.int c)), z5, inv_eq h3 fun q => ?_, by have := (wysL_nodup (row := row) c).2; omega, rfl⟩
    · simp only [List.set_cons_succ, List.set_cons_zero]
      have hwy := waysat_ok (row := row) (c := c) (by omega)
      rw [← e]
      generalize row.map DV.int = TR at *
      generalize selfB B C D w g M row A = SB at *
      generalize (wysL row c).map wyD = TW at *
      simp [l_binit_2, hwy]
    · constructor
      · rintro (h | ⟨h, h'⟩)
        · exact ⟨by have := h.1; omega, h.2.1, h.2.2⟩
        · exact ⟨by omega, by omega, by rw [h]; exact h'⟩
      · intro h
        by_cases hq : q.1 = c
        · exact .inr ⟨hq, by rw [← hq]; exact h.2.2⟩
        · exact .inl ⟨by have := h.1; omega, h.2.1, h.2.2⟩)
  refine ⟨A, y4, y5, e, inv_eq hA fun q => ?_⟩
  rw [dns_len]
  simp [DoneA]
def IsSh (C D : Addr) (w : Int) (g : Nat → Bool) (m : MV) : Prop := m = .obj D shN (shV C w g) ∨ m = .val (shD C D w g)
theorem binit_ok (hBD : True) (hw : 8 ≤ w) (hw2 : w ≤ 40) (hM : M.length ≤ 5) (hr : row.length ≤ 900) {ms mr : MV} (hs : IsSh C D w g ms) (hm : IsL mr (row.map DV.int)) :
    ∃ A, r_binit B C D [.obj B [] [], ms, .val (.tup (M.map DV.int)), mr] = .ok (.val .non) [selfB B C D w g M row A, .val (shD C D w g), .val (.tup (M.map DV.int)), .val (.lst (row.map DV.int))] ∧ InvA w g M row A (DoneA row 0) := by
  obtain ⟨A, y4, y5, e, hI⟩ := binit_loop (B := B) (C := C) (D := D) (w := w) (g := g) hw hw2 hM hr (some (.val (shD C D w g))) (some (.val (.tup (M.map DV.int))))
  refine ⟨A, ?_, hI⟩
  have hk : ksA [] = [] := rfl
  have he : esA [] = [] := rfl
  have hn : (row.map DV.int).length = row.length := by simp
  have z1 : small62 (row.length : Int) := small62_of (by omega) (by omega)
  simp only [selfB, hk, he] at e ⊢
  rw [← hn] at e z1
  generalize ksA A = KS at *
  generalize esA A = ES at *
  generalize M.map DV.int = TM at *
  generalize row.map DV.int = TR at *
  rcases hs with rfl | rfl <;> rcases hm with rfl | rfl <;> simp [r_binit, b_binit, e, z1]
/-! ### the prices that are made -/
def prA (A : BA) (c : Nat) : Int × Int := (match A.lookup (c, .first) with
  | some v => v.1
  | none => (lookB A (c, .on)).1, (lookB A (c, .joined)).1)
def prD (p : Int × Int) : DV := .tup [.int p.1, .int p.2]
theorem mkprice1 (c : Nat) (acc : List (Int × Int)) (hz : acc.length ≤ 1000) (x0 x1 x2 x6 : Option MV) :
    ∃ y6, l_mkprice_1 [x0, x1, x2, some (.val (.dct (ksA A) (esA A))), some (.lst (acc.map prD)), some (.val (.int c)), x6] = .nx [x0, x1, x2, some (.val (.dct (ksA A) (esA A))), some (.lst ((acc ++ [prA A c]).map prD)), some (.val (.int c)), y6] := by
  have h1 := dget_A A (c, .first)
  have h2 := dget_A A (c, .on)
  have h3 := dget_A A (c, .joined)
  change dget _ _ [.inl (c : Int), .inr "first"] = _ at h1
  change dget _ _ [.inl (c : Int), .inr "on"] = _ at h2
  change dget _ _ [.inl (c : Int), .inr "joined"] = _ at h3
  have z1 : (acc.map prD).length ≤ 10000000 := by simp; omega
  have hp : (acc ++ [prA A c]).map prD = acc.map prD ++ [.tup [.int (prA A c).1, .int (prA A c).2]] := by simp [prD]
  rw [hp]
  refine ⟨some (.val (.int (prA A c).1)), ?_⟩
  have hf : ∀ z, lookB A z = (A.lookup z).getD (0, ⟨[]⟩) := fun z => rfl
  generalize acc.map prD = TA at *
  simp only [prA, hf]
  generalize ksA A = KS at *
  generalize esA A = ES at *
  cases e1 : A.lookup (c, .first) <;> cases e2 : A.lookup (c, .on) <;> cases e3 : A.lookup (c, .joined) <;> rw [e1] at h1 <;> rw [e2] at h2 <;> rw [e3] at h3 <;> simp only [Option.map_none, Option.map_some, bvD] at h1 h2 h3 <;>
    simp [l_mkprice_1, h1, h2, h3, z1]
theorem mkprice2 (n : Nat) (x0 x1 x2 : Option MV) : ∀ (cs : List Nat) (acc : List (Int × Int)) (x5 x6 : Option MV), acc.length + cs.length ≤ 1000 →
    ∃ y5 y6, loop (.nm 5) l_mkprice_1 (NI cs) [x0, x1, x2, some (.val (.dct (ksA A) (esA A))), some (.lst (acc.map prD)), x5, x6] = .nx [x0, x1, x2, some (.val (.dct (ksA A) (esA A))), some (.lst ((acc ++ cs.map (prA A)).map prD)), y5, y6]
  | [], acc, x5, x6, hz => ⟨x5, x6, by simp [loop, NI]⟩
  | c :: cs, acc, x5, x6, hz => by
    rw [List.length_cons] at hz
    obtain ⟨y6, e1⟩ := mkprice1 (A := A) c acc (by omega) x0 x1 x2 x6
    obtain ⟨z5, z6, e2⟩ := mkprice2 n x0 x1 x2 cs (acc ++ [prA A c]) (some (.val (.int c))) y6 (by simp; omega)
    refine ⟨z5, z6, ?_⟩
    rw [show NI (c :: cs) = .int c :: NI cs from rfl]
    unfold loop
    rw [bindP_nm, if_pos (by simp)]
    simp only [List.set_cons_succ, List.set_cons_zero]
    rw [e1]
    simp only
    rw [e2, List.map_cons, List.append_assoc]
    rfl
theorem mkprice_ok (hw : 8 ≤ w) (hw2 : w ≤ 40) (hM : M.length ≤ 5) (hr : row.length ≤ 900) {ms mr : MV} (hs : IsSh C D w g ms) (hm : IsL mr (row.map DV.int)) :
    ∃ A, r_mkprice B C D [ms, .val (.tup (M.map DV.int)), mr] = .ok (.lst (((List.range row.length).map (prA A)).map prD)) [.val (shD C D w g), .val (.tup (M.map DV.int)), .val (.lst (row.map DV.int))] ∧ InvA w g M row A (DoneA row 0) := by
  obtain ⟨A, hb, hI⟩ := binit_ok (B := B) (C := C) (D := D) trivial hw hw2 hM hr hs hm
  refine ⟨A, ?_, hI⟩
  obtain ⟨y5, y6, e⟩ := mkprice2 (A := A) row.length (some (.val (shD C D w g))) (some (.val (.tup (M.map DV.int)))) (some (.val (.lst (row.map DV.int)))) (List.range row.length) [] none none (by simp; omega)
  rw [List.nil_append, List.map_nil] at e
  have hn : (row.map DV.int).length = row.length := by simp
  have z1 : small62 (row.length : Int) := small62_of (by omega) (by omega)
  have hu : ups 0 (row.length : Int) = NI (List.range row.length) := by
    rw [List.range_eq_range', ← ups_range']
    rfl
  simp only [selfB] at *
  generalize ((List.range row.length).map (prA A)).map prD = PP at *
  generalize NI (List.range row.length) = TE at *
  rw [← hn] at z1 hu
  generalize ksA A = KS at *
  generalize esA A = ES at *
  generalize M.map DV.int = TM at *
  generalize row.map DV.int = TR at *
  rcases hs with rfl | rfl <;> rcases hm with rfl | rfl <;> simp [r_mkprice, b_mkprice, hb, e, z1, hu]
end
end Sy
namespace Sy
open PySem PySem.Spec PyProof.Rows L2
/-! ### prices judged -/
noncomputable def l_pfine_1 : SM := (S.seq (S.asg 11 (E.app intD (A.cons (E.bin eqD (E.bin ixD (E.var 10) (E.c (.int 1))) (E.c (.str "joined"))) A.nil)))
    (S.ife (T.val (E.bin gtD (E.var 7) (E.bin addD (E.bin addD (E.bin powD (E.var 9) (E.c (.int 2))) (E.bin mulD (E.c (.int 50)) (E.var 11))) (E.bin ixD (E.bin ixD (E.var 3) (E.bin ixD (E.var 10) (E.c (.int 0)))) (E.var 11))))) (S.ret 4 (E.c (.bl false))) S.nil))
noncomputable def l_pfine_2 : SM := (S.seq (S.ife (T.and (T.val (E.bin eqD (E.var 8) (E.app lenD (A.cons (E.var 2) A.nil)))) (T.val (E.bin gtD (E.var 7) (E.c (.int 0))))) (S.ret 4 (E.c (.bl false))) S.nil)
    (S.ife (T.val (E.bin ltD (E.var 8) (E.app lenD (A.cons (E.var 2) A.nil)))) (S.seq (S.asg 9 (E.bin subD (E.bin subD (E.bin ixD (E.var 0) (E.c (.int 0))) (E.app lenD (A.cons (E.var 6) A.nil))) (E.bin subD (E.var 8) (E.var 4))))
    (S.forr (I.lst (E.call 2 r_lfol (A.cons (E.var 2) (A.cons (E.var 8) A.nil)))) (.nm 10) l_pfine_1)) S.nil))
noncomputable def l_pfine_3 : SM := (S.seq (S.asg 6 (E.call 3 r_lmark (A.cons (E.var 0) (A.cons (E.var 1) (A.cons (E.var 5) A.nil)))))
    (S.seq (S.asg 7 (E.bin ixD (E.bin ixD (E.var 3) (E.var 4)) (E.app intD (A.cons (E.bin eqD (E.var 5) (E.c (.str "joined"))) A.nil))))
    (S.forr (I.rng2 (A.cons (E.bin addD (E.var 4) (E.c (.int 1))) (A.cons (E.bin addD (E.app min2D (A.cons (E.app lenD (A.cons (E.var 2) A.nil)) (A.cons (E.bin subD (E.bin addD (E.var 4) (E.bin ixD (E.var 0) (E.c (.int 0)))) (E.app lenD (A.cons (E.var 6) A.nil))) A.nil))) (E.c (.int 1))) A.nil))) (.nm 8) l_pfine_2)))
noncomputable def l_pfine_4 : SM := (S.forr (I.lst (E.call 2 r_lbegin (A.cons (E.var 2) (A.cons (E.var 4) A.nil)))) (.nm 5) l_pfine_3)
noncomputable def b_pfine : SM := (S.seq (S.ife (T.val (E.bin neD (E.app lenD (A.cons (E.var 3) A.nil)) (E.app lenD (A.cons (E.var 2) A.nil)))) (S.ret 4 (E.c (.bl false))) S.nil)
    (S.seq (S.forr (I.rng1 (A.cons (E.app lenD (A.cons (E.var 2) A.nil)) A.nil)) (.nm 4) l_pfine_4)
    (S.ret 4 (E.c (.bl true)))))
noncomputable def r_pfine : FM := fn 4 8 [4, 5, 6, 7, 8, 9, 10, 11] b_pfine
noncomputable def b_priceof : SM := (S.seq (S.unp (.tp [(.nm 2), (.nm 3)]) (E.var 1))
    (S.ret 2 (E.bin ixD (E.bin ixD (E.var 0) (E.var 2)) (E.app intD (A.cons (E.bin eqD (E.var 3) (E.c (.str "joined"))) A.nil)))))
noncomputable def r_priceof : FM := fn 2 2 [2, 3] b_priceof
noncomputable def l_holdsp_1 (C D : Addr) : SM := (S.ife (T.val (E.bin gtD (E.var 5) (E.bin addD (E.bin addD (E.call 2 (r_lncost C D) (A.cons (E.var 0) (A.cons (E.var 7) A.nil))) (E.call 1 r_jcost (A.cons (E.bin ixD (E.var 8) (E.c (.int 1))) A.nil))) (E.call 2 r_priceof (A.cons (E.var 3) (A.cons (E.var 8) A.nil)))))) (S.ret 5 (E.c (.bl false))) S.nil)
noncomputable def l_holdsp_2 (C D : Addr) : SM := (S.seq (S.asg 7 (E.call 5 (r_lineat C D) (A.cons (E.var 0) (A.cons (E.var 1) (A.cons (E.var 2) (A.cons (E.var 4) (A.cons (E.var 6) A.nil)))))))
    (S.ife (T.val (E.bin eqD (E.var 6) (E.app lenD (A.cons (E.var 2) A.nil)))) (S.ife (T.val (E.bin gtD (E.var 5) (E.c (.int 0)))) (S.ret 5 (E.c (.bl false))) S.nil) (S.forr (I.lst (E.call 2 r_lfol (A.cons (E.var 2) (A.cons (E.var 6) A.nil)))) (.nm 8) (l_holdsp_1 C D))))
noncomputable def b_holdsp (C D : Addr) : SM := (S.seq (S.asg 5 (E.call 2 r_priceof (A.cons (E.var 3) (A.cons (E.var 4) A.nil))))
    (S.seq (S.forr (I.lst (E.call 4 (r_endsof C D) (A.cons (E.var 0) (A.cons (E.var 1) (A.cons (E.var 2) (A.cons (E.var 4) A.nil)))))) (.nm 6) (l_holdsp_2 C D))
    (S.ret 5 (E.c (.bl true)))))
noncomputable def r_holdsp (C D : Addr) : FM := fn 5 4 [5, 6, 7, 8] (b_holdsp C D)
noncomputable def m_accp_1 (C D : Addr) : EM := (E.call 5 (r_holdsp C D) (A.cons (E.var 0) (A.cons (E.var 1) (A.cons (E.var 2) (A.cons (E.var 3) (A.cons (E.tup (A.cons (E.var 4) (A.cons (E.var 5) A.nil))) A.nil))))))
noncomputable def l_accp_1 (C D : Addr) : SM := (S.ife (T.not (T.tru (E.app allD (A.cons (E.lc (I.lst (E.call 2 r_waysat (A.cons (E.var 2) (A.cons (E.var 4) A.nil)))) (.nm 5) T.yes (m_accp_1 C D) [5]) A.nil)))) (S.ret 4 (E.c (.bl false))) S.nil)
noncomputable def b_accp (C D : Addr) : SM := (S.seq (S.ife (T.val (E.bin neD (E.app lenD (A.cons (E.var 3) A.nil)) (E.app lenD (A.cons (E.var 2) A.nil)))) (S.ret 4 (E.c (.bl false))) S.nil)
    (S.seq (S.forr (I.rng1 (A.cons (E.app lenD (A.cons (E.var 2) A.nil)) A.nil)) (.nm 4) (l_accp_1 C D))
    (S.ret 4 (E.c (.bl true)))))
noncomputable def r_accp (C D : Addr) : FM := fn 4 2 [4] (b_accp C D)
theorem loop_chk {α : Type} {p : Pat} {b : SM} (f : α → DV) (c : α → Bool) (I : Sl → Prop) (r : MV) : ∀ (xs : List α) (sl : Sl), I sl → (∀ x ∈ xs, ∀ s, I s → ∃ s1 s2, bindP p (f x) s = some s1 ∧ I s2 ∧ b s1 = if c x then .nx s2 else .ret r s2) →
    ∃ s, I s ∧ loop p b (xs.map f) sl = if xs.all c then .nx s else .ret r s
  | [], sl, h, _ => ⟨sl, h, by simp [loop]⟩
  | x :: xs, sl, h, hs => by
    obtain ⟨s1, s2, e1, h2, e2⟩ := hs x (by simp) sl h
    rw [List.map_cons, List.all_cons]
    unfold loop
    rw [e1]
    simp only
    rw [e2]
    by_cases hc : c x = true
    · rw [if_pos hc, hc, Bool.true_and]
      exact loop_chk f c I r xs s2 h2 fun y hy => hs y (by simp [hy])
    · rw [if_neg hc]
      simp only [Bool.not_eq_true] at hc
      exact ⟨s2, h2, by rw [hc]; rfl⟩
def priceP (P : List (Int × Int)) (q : Nat × Way) : Int := if q.2 = .joined then (P.getD q.1 (0, 0)).2 else (P.getD q.1 (0, 0)).1
def follOK (w : Int) (L : List Int) (P : List (Int × Int)) (pr : Int) (q : Nat × Way) : Bool := decide (pr ≤ (w - L.length) ^ 2 + jcF q.2 + priceP P q)
def endOK (w : Int) (g : Nat → Bool) (M row : List Int) (P : List (Int × Int)) (p : Nat × Way) (e : Nat) : Bool := if e = row.length then decide (priceP P p ≤ 0) else (folL row e).all (follOK w (lineL g M row p e) P (priceP P p))
def holdB (w : Int) (g : Nat → Bool) (M row : List Int) (P : List (Int × Int)) (p : Nat × Way) : Bool := (endsP w g M row.length p.1 p.2).all (endOK w g M row P p)
def cellOK (w : Int) (g : Nat → Bool) (M row : List Int) (P : List (Int × Int)) (c : Nat) : Bool := (wysL row c).all fun y => holdB w g M row P (c, y)
def accLP (w : Int) (g : Nat → Bool) (M row : List Int) (P : List (Int × Int)) : Bool := decide (P.length = row.length) && (List.range row.length).all (cellOK w g M row P)
section
variable {B C D : Addr} {w : Int} {g : Nat → Bool} {M row : List Int} {P : List (Int × Int)}
theorem atP {c : Nat} (h : c < P.length) : atI (P.map prD) (c : Int) = some (.tup [.int (P.getD c (0, 0)).1, .int (P.getD c (0, 0)).2]) := by
  rw [atI_n, List.getElem?_map, List.getD_eq_getElem?_getD, List.getElem?_eq_getElem h]
  rfl
theorem priceof_ok {mp : MV} (hm : IsL mp (P.map prD)) {q : Nat × Way} (hq : q.1 < P.length) : r_priceof [mp, .val (plD q)] = .ok (.val (.int (priceP P q))) [mp, .val (plD q)] := by
  obtain ⟨c, y⟩ := q
  have a := atP hq
  have h := way_joined y
  have hv : mp.view = .lst (P.map prD) := by rcases hm with rfl | rfl <;> rfl
  simp only [plD, priceP]
  generalize P.map prD = TP at *
  by_cases hy : y = .joined
  · rw [decide_eq_true hy] at h
    simp only [if_pos hy]
    simp [r_priceof, b_priceof, h, hv, a]
  · rw [decide_eq_false hy] at h
    simp only [if_neg hy]
    simp [r_priceof, b_priceof, h, hv, a]
/-- what follows an end -/
theorem holds1 (hw : 8 ≤ w) (hw2 : w ≤ 40) {L : List Int} (hL : L.length ≤ 1000) {mp : MV} (hm : IsL mp (P.map prD)) (x1 x2 x4 x6 : Option MV) (pr : Int) {q : Nat × Way} (hq : q.1 < P.length) :
    l_holdsp_1 C D [some (.val (shD C D w g)), x1, x2, some mp, x4, some (.val (.int pr)), x6, some (.val (.tup (L.map DV.int))), some (.val (plD q))] =
      if follOK w L P pr q then .nx [some (.val (shD C D w g)), x1, x2, some mp, x4, some (.val (.int pr)), x6, some (.val (.tup (L.map DV.int))), some (.val (plD q))] else .ret (.val (.bl false)) [some (.val (shD C D w g)), x1, x2, some mp, x4, some (.val (.int pr)), x6, some (.val (.tup (L.map DV.int))), some (.val (plD q))] := by
  have hp := priceof_ok hm hq
  have hl := lncV C D (w := w) g L (by omega) (by omega) hL
  obtain ⟨c, y⟩ := q
  have hj := jcost_ok y
  unfold follOK
  simp only [plD] at *
  generalize priceP P (c, y) = Z at *
  generalize (w - (L.length : Int)) ^ 2 = P2 at *
  generalize L.map DV.int = TL at *
  generalize shD C D w g = SH at *
  by_cases h : pr ≤ P2 + jcF y + Z
  · have h' : ¬ (P2 + jcF y + Z < pr) := by omega
    rcases hm with rfl | rfl <;> simp [l_holdsp_1, hp, hl, hj, h, h']
  · have h' : P2 + jcF y + Z < pr := by omega
    rcases hm with rfl | rfl <;> simp [l_holdsp_1, hp, hl, hj, h, h']
/-- one end -/
theorem holds2 (hw : 8 ≤ w) (hw2 : w ≤ 40) (hM : M.length ≤ 5) (hr : row.length ≤ 900) (hP : P.length = row.length) {mp : MV} (hm : IsL mp (P.map prD)) {p : Nat × Way} {k : Nat} (hk : k ≤ row.length) (x7 x8 : Option MV) :
    ∃ y7 y8, l_holdsp_2 C D [some (.val (shD C D w g)), some (.val (.tup (M.map DV.int))), some (.val (.lst (row.map DV.int))), some mp, some (.val (plD p)), some (.val (.int (priceP P p))), some (.val (.int k)), x7, x8] =
      if endOK w g M row P p k then .nx [some (.val (shD C D w g)), some (.val (.tup (M.map DV.int))), some (.val (.lst (row.map DV.int))), some mp, some (.val (plD p)), some (.val (.int (priceP P p))), some (.val (.int k)), y7, y8]
      else .ret (.val (.bl false)) [some (.val (shD C D w g)), some (.val (.tup (M.map DV.int))), some (.val (.lst (row.map DV.int))), some mp, some (.val (plD p)), some (.val (.int (priceP P p))), some (.val (.int k)), y7, y8] := by
  have hl := lineat_ok (g := g) (row := row) C D w hM (by omega) p k
  have hL := line_le (g := g) (M := M) (row := row) hM hr p k
  have hn : ((row.map DV.int).length : Int) = row.length := by simp
  unfold endOK
  by_cases hk2 : k = row.length
  · rw [if_pos hk2]
    have hk3 : (k : Int) = ((row.map DV.int).length : Int) := by omega
    refine ⟨some (.val (.tup ((lineL g M row p k).map DV.int))), x8, ?_⟩
    generalize priceP P p = PR at *
    generalize (lineL g M row p k).map DV.int = TL at *
    generalize M.map DV.int = TM at *
    generalize row.map DV.int = TR at *
    generalize shD C D w g = SH at *
    generalize plD p = PP at *
    by_cases h : PR ≤ 0
    · have h' : ¬ 0 < PR := by omega
      simp [l_holdsp_2, hl, ← hk3, h, h']
    · have h' : 0 < PR := by omega
      simp [l_holdsp_2, hl, ← hk3, h, h']
  · rw [if_neg hk2]
    have hk3 : ¬ (k : Int) = ((row.map DV.int).length : Int) := by omega
    have hf := lfol_ok (m := .val (.lst (row.map DV.int))) (.inl rfl) (show k < row.length by omega)
    obtain ⟨s, ⟨y8, rfl⟩, e⟩ := loop_chk (p := .nm 8) (b := l_holdsp_1 C D) plD (follOK w (lineL g M row p k) P (priceP P p)) (fun s => ∃ y8, s = [some (.val (shD C D w g)), some (.val (.tup (M.map DV.int))), some (.val (.lst (row.map DV.int))), some mp, some (.val (plD p)), some (.val (.int (priceP P p))), some (.val (.int k)), some (.val (.tup ((lineL g M row p k).map DV.int))), y8]) (.val (.bl false)) (folL row k)
      [some (.val (shD C D w g)), some (.val (.tup (M.map DV.int))), some (.val (.lst (row.map DV.int))), some mp, some (.val (plD p)), some (.val (.int (priceP P p))), some (.val (.int k)), some (.val (.tup ((lineL g M row p k).map DV.int))), x8] ⟨x8, rfl⟩ (by
        rintro q hq s ⟨y8, rfl⟩
        refine ⟨_, _, by rw [bindP_nm, if_pos (by simp)], ⟨some (.val (plD q)), rfl⟩, ?_⟩
        simp only [List.set_cons_succ, List.set_cons_zero]
        exact holds1 hw hw2 hL hm _ _ _ _ _ (by rw [hP]; exact (fol_mem (show k < row.length by omega) hq).1))
    refine ⟨some (.val (.tup ((lineL g M row p k).map DV.int))), y8, ?_⟩
    rw [← e]
    generalize priceP P p = PR at *
    generalize (lineL g M row p k).map DV.int = TL at *
    generalize M.map DV.int = TM at *
    generalize row.map DV.int = TR at *
    generalize shD C D w g = SH at *
    generalize plD p = PP at *
    generalize (folL row k).map plD = TF at *
    simp [l_holdsp_2, hl, hk3, hf]
theorem holdsp_ok (hw : 8 ≤ w) (hw2 : w ≤ 40) (hM : M.length ≤ 5) (hr : row.length ≤ 900) (hP : P.length = row.length) {mp : MV} (hm : IsL mp (P.map prD)) {p : Nat × Way} (hp : p.1 < row.length) :
    r_holdsp C D [.val (shD C D w g), .val (.tup (M.map DV.int)), .val (.lst (row.map DV.int)), mp, .val (plD p)] = .ok (.val (.bl (holdB w g M row P p))) [.val (shD C D w g), .val (.tup (M.map DV.int)), .val (.lst (row.map DV.int)), mp, .val (plD p)] := by
  have hpr := priceof_ok hm (q := p) (by omega)
  have he := endsof_ok (w := w) (g := g) (M := M) (row := row) C D hw hw2 hM (by omega) (c := p.1) (Nat.le_of_lt hp) p.2
  obtain ⟨s, ⟨y6, y7, y8, rfl⟩, e⟩ := loop_chk (p := .nm 6) (b := l_holdsp_2 C D) (fun k : Nat => DV.int k) (endOK w g M row P p) (fun s => ∃ y6 y7 y8, s = [some (.val (shD C D w g)), some (.val (.tup (M.map DV.int))), some (.val (.lst (row.map DV.int))), some mp, some (.val (plD p)), some (.val (.int (priceP P p))), y6, y7, y8]) (.val (.bl false)) (endsP w g M row.length p.1 p.2)
    [some (.val (shD C D w g)), some (.val (.tup (M.map DV.int))), some (.val (.lst (row.map DV.int))), some mp, some (.val (plD p)), some (.val (.int (priceP P p))), none, none, none] ⟨none, none, none, rfl⟩ (by
      rintro k hk s ⟨y6, y7, y8, rfl⟩
      obtain ⟨z7, z8, h⟩ := holds2 (C := C) (D := D) hw hw2 hM hr hP hm (p := p) (k := k) (ends_bd2 hw hM hk).2.1 y7 y8
      refine ⟨_, _, by rw [bindP_nm, if_pos (by simp)], ⟨some (.val (.int k)), z7, z8, rfl⟩, ?_⟩
      simp only [List.set_cons_succ, List.set_cons_zero]
      exact h)
  have hNI : (endsP w g M row.length p.1 p.2).map (fun k : Nat => DV.int k) = NI (endsP w g M row.length p.1 p.2) := rfl
  rw [hNI] at e
  change _ = if holdB w g M row P p then _ else _ at e
  rw [show ((p.1, p.2) : Nat × Way) = p from rfl] at he
  generalize holdB w g M row P p = HB at *
  generalize NI (endsP w g M row.length p.1 p.2) = TE at *
  generalize M.map DV.int = TM at *
  generalize row.map DV.int = TR at *
  generalize shD C D w g = SH at *
  generalize plD p = PP at *
  cases HB
  · simp only [if_neg (show ¬ (false = true) by simp)] at e
    rcases hm with rfl | rfl <;> simp [r_holdsp, b_holdsp, hpr, he, e]
  · simp only [if_pos rfl] at e
    rcases hm with rfl | rfl <;> simp [r_holdsp, b_holdsp, hpr, he, e]
theorem lcl_mapA {α : Type} {p : Pat} {m : EM} {ws : List Nat} {b : Sl} (h : α → DV) (f : α → DV) : ∀ (xs : List α) (acc : List DV),
    (∀ x ∈ xs, ∃ s1 o s3 s4, bindP p (h x) b = some s1 ∧ m s1 = .ok o s3 ∧ settle1 o s3 = some (f x, s4) ∧ wipeS s4 ws = b) → lcl p T.yes m ws (xs.map h) acc b = .ok (acc ++ xs.map f) b
  | [], acc, _ => by simp [lcl]
  | x :: xs, acc, e => by
    obtain ⟨s1, o, s3, s4, e1, e2, e3, e4⟩ := e x (by simp)
    rw [List.map_cons]
    unfold lcl
    rw [e1]
    simp only [T.yes, Res.bind_ok, if_true, e2, e3, e4]
    rw [lcl_mapA h f xs _ fun y hy => e y (by simp [hy])]
    simp
/-- one cell -/
theorem accp1 (hw : 8 ≤ w) (hw2 : w ≤ 40) (hM : M.length ≤ 5) (hr : row.length ≤ 900) (hP : P.length = row.length) {mp : MV} (hm : IsL mp (P.map prD)) {c : Nat} (hc : c < row.length) :
    l_accp_1 C D [some (.val (shD C D w g)), some (.val (.tup (M.map DV.int))), some (.val (.lst (row.map DV.int))), some mp, some (.val (.int c)), none] =
      if cellOK w g M row P c then .nx [some (.val (shD C D w g)), some (.val (.tup (M.map DV.int))), some (.val (.lst (row.map DV.int))), some mp, some (.val (.int c)), none]
      else .ret (.val (.bl false)) [some (.val (shD C D w g)), some (.val (.tup (M.map DV.int))), some (.val (.lst (row.map DV.int))), some mp, some (.val (.int c)), none] := by
  have hwy := waysat_ok (row := row) (c := c) (by omega)
  have hl := lcl_mapA (p := .nm 5) (m := m_accp_1 C D) (ws := [5]) (b := [some (.val (shD C D w g)), some (.val (.tup (M.map DV.int))), some (.val (.lst (row.map DV.int))), some mp, some (.val (.int c)), none]) wyD (fun y => DV.bl (holdB w g M row P (c, y))) (wysL row c) [] (by
    intro y hy
    have hh := holdsp_ok (C := C) (D := D) (g := g) hw hw2 hM hr hP hm (p := (c, y)) hc
    refine ⟨_, .tmp (.val (.bl (holdB w g M row P (c, y)))), [some (.val (shD C D w g)), some (.val (.tup (M.map DV.int))), some (.val (.lst (row.map DV.int))), some mp, some (.val (.int c)), some (.val (wyD y))], [some (.val (shD C D w g)), some (.val (.tup (M.map DV.int))), some (.val (.lst (row.map DV.int))), some mp, some (.val (.int c)), some (.val (wyD y))], by rw [bindP_nm, if_pos (by simp)], ?_, by rw [settle1_tmp]; rfl, by simp [wipeS_cons, wipeS_nil]⟩
    simp only [List.set_cons_succ, List.set_cons_zero, plD, wyD] at hh ⊢
    generalize holdB w g M row P (c, y) = HB at *
    generalize M.map DV.int = TM at *
    generalize row.map DV.int = TR at *
    generalize shD C D w g = SH at *
    rcases hm with rfl | rfl <;> simp [m_accp_1, hh])
  rw [List.nil_append] at hl
  have hb : (wysL row c).map (fun y => DV.bl (holdB w g M row P (c, y))) = ((wysL row c).map fun y => holdB w g M row P (c, y)).map DV.bl := by rw [List.map_map]; rfl
  have ha : ((wysL row c).map fun y => holdB w g M row P (c, y)).all id = cellOK w g M row P c := by unfold cellOK; rw [List.all_map]; rfl
  rw [hb] at hl
  have hall := allD_bls (bs := (wysL row c).map fun y => holdB w g M row P (c, y))
  rw [ha] at hall
  generalize ((wysL row c).map fun y => holdB w g M row P (c, y)).map DV.bl = TB at *
  have hz : ((wysL row c).map wyD).length ≤ 10000000 := by have := (wysL_nodup (row := row) c).2; simp; omega
  generalize (wysL row c).map wyD = TW at *
  generalize cellOK w g M row P c = CO at *
  generalize M.map DV.int = TM at *
  generalize row.map DV.int = TR at *
  generalize shD C D w g = SH at *
  cases CO <;> simp [l_accp_1, hwy, hl, hall, hz]
theorem accp_ok (hw : 8 ≤ w) (hw2 : w ≤ 40) (hM : M.length ≤ 5) (hr : row.length ≤ 900) {mp : MV} (hm : IsL mp (P.map prD)) :
    r_accp C D [.val (shD C D w g), .val (.tup (M.map DV.int)), .val (.lst (row.map DV.int)), mp] = .ok (.val (.bl (accLP w g M row P))) [.val (shD C D w g), .val (.tup (M.map DV.int)), .val (.lst (row.map DV.int)), mp] := by
  have hn : ((row.map DV.int).length : Int) = row.length := by simp
  have hnp : ((P.map prD).length : Int) = P.length := by simp
  have hv : mp.view = .lst (P.map prD) := by rcases hm with rfl | rfl <;> rfl
  unfold accLP
  by_cases hP : P.length = row.length
  · obtain ⟨s, ⟨y4, rfl⟩, e⟩ := loop_chk (p := .nm 4) (b := l_accp_1 C D) (fun k : Nat => DV.int k) (cellOK w g M row P) (fun s => ∃ y4, s = [some (.val (shD C D w g)), some (.val (.tup (M.map DV.int))), some (.val (.lst (row.map DV.int))), some mp, y4, none]) (.val (.bl false)) (List.range row.length)
      [some (.val (shD C D w g)), some (.val (.tup (M.map DV.int))), some (.val (.lst (row.map DV.int))), some mp, none, none] ⟨none, rfl⟩ (by
        rintro c hc s ⟨y4, rfl⟩
        refine ⟨_, _, by rw [bindP_nm, if_pos (by simp)], ⟨some (.val (.int c)), rfl⟩, ?_⟩
        simp only [List.set_cons_succ, List.set_cons_zero]
        exact accp1 hw hw2 hM hr hP hm (List.mem_range.mp hc))
    have hu : (List.range row.length).map (fun k : Nat => DV.int k) = ups 0 (row.length : Int) := by
      rw [List.range_eq_range']
      exact (ups_range' 0 row.length).symm
    have z1 : small62 (row.length : Int) := small62_of (by omega) (by omega)
    rw [hu, ← hn] at e
    rw [← hn] at z1
    have hq : ((P.map prD).length : Int) = ((row.map DV.int).length : Int) := by omega
    rw [decide_eq_true hP, Bool.true_and]
    generalize (List.range row.length).all (cellOK w g M row P) = CO at *
    generalize M.map DV.int = TM at *
    generalize row.map DV.int = TR at *
    generalize shD C D w g = SH at *
    generalize P.map prD = TP at *
    cases CO
    · simp only [if_neg (show ¬ (false = true) by simp)] at e
      rcases hm with rfl | rfl <;> simp [r_accp, b_accp, hq, z1, e]
    · simp only [if_pos rfl] at e
      rcases hm with rfl | rfl <;> simp [r_accp, b_accp, hq, z1, e]
  · have hq : ¬ ((P.map prD).length : Int) = ((row.map DV.int).length : Int) := by omega
    rw [decide_eq_false hP, Bool.false_and]
    generalize M.map DV.int = TM at *
    generalize row.map DV.int = TR at *
    generalize shD C D w g = SH at *
    generalize P.map prD = TP at *
    rcases hm with rfl | rfl <;> simp [r_accp, b_accp, hq]
end
end Sy
namespace Sy
open PySem PySem.Spec PyProof.Rows L2
/-! ### the law's own judge -/
section
variable {B C D : Addr} {w : Int} {g : Nat → Bool} {M row : List Int} {P : List (Int × Int)}
theorem pfine1 {sp : Int} (hs0 : sp.natAbs ≤ 100000) {m1 mp : MV} (hm : IsL mp (P.map prD)) (x1 x2 x4 x5 x6 x8 x11 : Option MV) (pr : Int) {q : Nat × Way} (hq : q.1 < P.length) :
    ∃ y11, l_pfine_1 [some m1, x1, x2, some mp, x4, x5, x6, some (.val (.int pr)), x8, some (.val (.int sp)), some (.val (plD q)), x11] =
      if decide (pr ≤ sp ^ 2 + jcF q.2 + priceP P q) then .nx [some m1, x1, x2, some mp, x4, x5, x6, some (.val (.int pr)), x8, some (.val (.int sp)), some (.val (plD q)), y11] else .ret (.val (.bl false)) [some m1, x1, x2, some mp, x4, x5, x6, some (.val (.int pr)), x8, some (.val (.int sp)), some (.val (plD q)), y11] := by
  obtain ⟨c, y⟩ := q
  have a := atP hq
  have h := way_joined y
  have hv : mp.view = .lst (P.map prD) := by rcases hm with rfl | rfl <;> rfl
  have g1 : sp.natAbs < 18446744073709551616 := by omega
  simp only [plD, priceP, jcF]
  generalize P.map prD = TP at *
  generalize (P.getD c (0, 0)).1 = Z1 at *
  generalize (P.getD c (0, 0)).2 = Z2 at *
  by_cases hy : y = .joined
  · rw [decide_eq_true hy] at h
    simp only [if_pos hy]
    refine ⟨some (.val (.int 1)), ?_⟩
    by_cases hc : pr ≤ sp ^ 2 + 50 + Z2
    · have hc' : ¬ sp ^ 2 + 50 + Z2 < pr := by omega
      simp [l_pfine_1, h, hv, a, g1, hc, hc']
    · have hc' : sp ^ 2 + 50 + Z2 < pr := by omega
      simp [l_pfine_1, h, hv, a, g1, hc, hc']
  · rw [decide_eq_false hy] at h
    simp only [if_neg hy]
    refine ⟨some (.val (.int 0)), ?_⟩
    by_cases hc : pr ≤ sp ^ 2 + Z1
    · have hc' : ¬ sp ^ 2 + Z1 < pr := by omega
      simp [l_pfine_1, h, hv, a, g1, hc, hc']
    · have hc' : sp ^ 2 + Z1 < pr := by omega
      simp [l_pfine_1, h, hv, a, g1, hc, hc']
theorem pfine2 (hw : 8 ≤ w) (hw2 : w ≤ 40) (hM : M.length ≤ 5) (hr : row.length ≤ 900) (hP : P.length = row.length) {m1 mp : MV} (h1 : IsL m1 (madeD w g)) (hm : IsL mp (P.map prD)) {p : Nat × Way} {k : Nat} (hk : k ∈ endsP w g M row.length p.1 p.2) (x1 x5 x9 x10 x11 : Option MV) :
    ∃ y9 y10 y11, l_pfine_2 [some m1, x1, some (.val (.lst (row.map DV.int))), some mp, some (.val (.int p.1)), x5, some (.val (.lst ((begL M g p.2).map DV.int))), some (.val (.int (priceP P p))), some (.val (.int k)), x9, x10, x11] =
      if endOK w g M row P p k then .nx [some m1, x1, some (.val (.lst (row.map DV.int))), some mp, some (.val (.int p.1)), x5, some (.val (.lst ((begL M g p.2).map DV.int))), some (.val (.int (priceP P p))), some (.val (.int k)), y9, y10, y11]
      else .ret (.val (.bl false)) [some m1, x1, some (.val (.lst (row.map DV.int))), some mp, some (.val (.int p.1)), x5, some (.val (.lst ((begL M g p.2).map DV.int))), some (.val (.int (priceP P p))), some (.val (.int k)), y9, y10, y11] := by
  have hn : ((row.map DV.int).length : Int) = row.length := by simp
  have hb := ends_bd2 hw hM hk
  have hv1 : m1.view = .lst (madeD w g) := by rcases h1 with rfl | rfl <;> rfl
  have a0 : atI (madeD w g) 0 = some (.int w) := rfl
  have hv : mp.view = .lst (P.map prD) := by rcases hm with rfl | rfl <;> rfl
  unfold endOK
  by_cases hk2 : k = row.length
  · rw [if_pos hk2]
    have hk3 : (k : Int) = ((row.map DV.int).length : Int) := by omega
    have hk4 : ¬ ((k : Int) < ((row.map DV.int).length : Int)) := by omega
    refine ⟨x9, x10, x11, ?_⟩
    generalize priceP P p = PR at *
    generalize (begL M g p.2).map DV.int = TB at *
    generalize row.map DV.int = TR at *
    by_cases h : PR ≤ 0
    · have h' : ¬ 0 < PR := by omega
      simp [l_pfine_2, ← hk3, h, h']
    · have h' : 0 < PR := by omega
      simp [l_pfine_2, ← hk3, h, h']
  · rw [if_neg hk2]
    have hk3 : ¬ (k : Int) = ((row.map DV.int).length : Int) := by omega
    have hk4 : (k : Int) < ((row.map DV.int).length : Int) := by omega
    have hf := lfol_ok (m := .val (.lst (row.map DV.int))) (.inl rfl) (show k < row.length by omega)
    obtain ⟨sp, hsp⟩ : ∃ sp : Int, sp = w - ((begL M g p.2).map DV.int).length - ((k : Int) - p.1) := ⟨_, rfl⟩
    have hlen : (w - ((lineL g M row p k).length : Int)) = sp := by
      rw [hsp]
      simp only [lineL, List.length_append, List.length_take, List.length_drop, List.length_map]
      omega
    have hs0 : sp.natAbs ≤ 100000 := by rw [hsp, List.length_map]; omega
    have hf2 : follOK w (lineL g M row p k) P (priceP P p) = fun q => decide (priceP P p ≤ sp ^ 2 + jcF q.2 + priceP P q) := by
      funext q
      unfold follOK
      rw [hlen]
    obtain ⟨s, ⟨y10, y11, rfl⟩, e⟩ := loop_chk (p := .nm 10) (b := l_pfine_1) plD (follOK w (lineL g M row p k) P (priceP P p)) (fun s => ∃ y10 y11, s = [some m1, x1, some (.val (.lst (row.map DV.int))), some mp, some (.val (.int p.1)), x5, some (.val (.lst ((begL M g p.2).map DV.int))), some (.val (.int (priceP P p))), some (.val (.int k)), some (.val (.int sp)), y10, y11]) (.val (.bl false)) (folL row k)
      [some m1, x1, some (.val (.lst (row.map DV.int))), some mp, some (.val (.int p.1)), x5, some (.val (.lst ((begL M g p.2).map DV.int))), some (.val (.int (priceP P p))), some (.val (.int k)), some (.val (.int sp)), x10, x11] ⟨x10, x11, rfl⟩ (by
        rintro q hq s ⟨y10, y11, rfl⟩
        obtain ⟨z11, h⟩ := pfine1 (m1 := m1) (mp := mp) hs0 hm x1 (some (.val (.lst (row.map DV.int)))) (some (.val (.int p.1))) x5 (some (.val (.lst ((begL M g p.2).map DV.int)))) (some (.val (.int k))) y11 (priceP P p) (q := q) (by rw [hP]; exact (fol_mem (show k < row.length by omega) hq).1)
        refine ⟨_, _, by rw [bindP_nm, if_pos (by simp)], ⟨some (.val (plD q)), z11, rfl⟩, ?_⟩
        simp only [List.set_cons_succ, List.set_cons_zero]
        rw [hf2]
        exact h)
    refine ⟨some (.val (.int sp)), y10, y11, ?_⟩
    rw [← e]
    generalize priceP P p = PR at *
    generalize (begL M g p.2).map DV.int = TB at *
    generalize row.map DV.int = TR at *
    generalize (folL row k).map plD = TF at *
    generalize madeD w g = MD at *
    simp [l_pfine_2, hf, hk3, hk4, hv1, a0, ← hsp]
/-- one way of a cell -/
theorem pfine3 (hw : 8 ≤ w) (hw2 : w ≤ 40) (hM : M.length ≤ 5) (hr : row.length ≤ 900) (hP : P.length = row.length) {m1 mp : MV} (h1 : IsL m1 (madeD w g)) (hm : IsL mp (P.map prD)) {p : Nat × Way} (hp : p.1 < row.length) (x6 x7 x8 x9 x10 x11 : Option MV) :
    ∃ y6 y7 y8 y9 y10 y11, l_pfine_3 [some m1, some (.val (.tup (M.map DV.int))), some (.val (.lst (row.map DV.int))), some mp, some (.val (.int p.1)), some (.val (wyD p.2)), x6, x7, x8, x9, x10, x11] =
      if holdB w g M row P p then .nx [some m1, some (.val (.tup (M.map DV.int))), some (.val (.lst (row.map DV.int))), some mp, some (.val (.int p.1)), some (.val (wyD p.2)), y6, y7, y8, y9, y10, y11]
      else .ret (.val (.bl false)) [some m1, some (.val (.tup (M.map DV.int))), some (.val (.lst (row.map DV.int))), some mp, some (.val (.int p.1)), some (.val (wyD p.2)), y6, y7, y8, y9, y10, y11] := by
  obtain ⟨s, ⟨y8, y9, y10, y11, rfl⟩, e⟩ := loop_chk (p := .nm 8) (b := l_pfine_2) (fun k : Nat => DV.int k) (endOK w g M row P p) (fun s => ∃ y8 y9 y10 y11, s = [some m1, some (.val (.tup (M.map DV.int))), some (.val (.lst (row.map DV.int))), some mp, some (.val (.int p.1)), some (.val (wyD p.2)), some (.val (.lst ((begL M g p.2).map DV.int))), some (.val (.int (priceP P p))), y8, y9, y10, y11]) (.val (.bl false)) (endsP w g M row.length p.1 p.2)
    [some m1, some (.val (.tup (M.map DV.int))), some (.val (.lst (row.map DV.int))), some mp, some (.val (.int p.1)), some (.val (wyD p.2)), some (.val (.lst ((begL M g p.2).map DV.int))), some (.val (.int (priceP P p))), x8, x9, x10, x11] ⟨x8, x9, x10, x11, rfl⟩ (by
      rintro k hk s ⟨y8, y9, y10, y11, rfl⟩
      obtain ⟨z9, z10, z11, h⟩ := pfine2 hw hw2 hM hr hP h1 hm (p := p) hk (some (.val (.tup (M.map DV.int)))) (some (.val (wyD p.2))) y9 y10 y11
      refine ⟨_, _, by rw [bindP_nm, if_pos (by simp)], ⟨some (.val (.int k)), z9, z10, z11, rfl⟩, ?_⟩
      simp only [List.set_cons_succ, List.set_cons_zero]
      exact h)
  refine ⟨some (.val (.lst ((begL M g p.2).map DV.int))), some (.val (.int (priceP P p))), y8, y9, y10, y11, ?_⟩
  have hNI : (endsP w g M row.length p.1 p.2).map (fun k : Nat => DV.int k) = NI (endsP w g M row.length p.1 p.2) := rfl
  rw [hNI] at e
  change _ = if holdB w g M row P p then _ else _ at e
  rw [← e]
  obtain ⟨c, y⟩ := p
  have hl := lmark_ok (M := M) h1 (by omega) y
  have hwj := way_joined y
  have a := atP (P := P) (c := c) (by rw [hP]; exact hp)
  have hv1 : m1.view = .lst (madeD w g) := by rcases h1 with rfl | rfl <;> rfl
  have a0 : atI (madeD w g) 0 = some (.int w) := rfl
  have hv : mp.view = .lst (P.map prD) := by rcases hm with rfl | rfl <;> rfl
  have hb5 := beg5 (g := g) hM y
  have hlb : (((begL M g y).map DV.int).length : Int) = ((begL M g y).length : Int) := by simp
  have hlr : ((row.map DV.int).length : Int) = (row.length : Int) := by simp
  have hE : ups ((c : Int) + 1) ((if (c : Int) + w - ((begL M g y).length : Int) < (row.length : Int) then (c : Int) + w - ((begL M g y).length : Int) else (row.length : Int)) + 1 - ((c : Int) + 1)) = NI (endsP w g M row.length c y) := by
    unfold endsP
    rw [← ups_range']
    congr 1
    split <;> omega
  obtain ⟨z, hz⟩ : ∃ z : Int, z = (if (c : Int) + w - ((begL M g y).length : Int) < (row.length : Int) then (c : Int) + w - ((begL M g y).length : Int) else (row.length : Int)) := ⟨_, rfl⟩
  have hp : c < row.length := hp
  have hz0 : 0 ≤ z ∧ z ≤ 2000 := by rw [hz]; split <;> omega
  rw [← hz] at hE
  have k1 : small62 ((c : Int) + 1) := small62_of (by omega) (by omega)
  have k2 : small62 (z + 1) := small62_of (by omega) (by omega)
  rw [← hlb, ← hlr] at hz
  simp only [wyD] at *
  rw [← hE]
  simp only [priceP]
  generalize (P.getD c (0, 0)).1 = Z1 at *
  generalize (P.getD c (0, 0)).2 = Z2 at *
  generalize (begL M g y).map DV.int = TB at *
  generalize M.map DV.int = TM at *
  generalize row.map DV.int = TR at *
  generalize madeD w g = MD at *
  generalize P.map prD = TP at *
  by_cases hy : y = .joined
  · rw [decide_eq_true hy] at hwj
    simp only [if_pos hy]
    rcases h1 with rfl | rfl <;> rcases hm with rfl | rfl <;> simp [l_pfine_3, hl, hv, hv1, a, a0, hwj, ← hz, k1, k2]
  · rw [decide_eq_false hy] at hwj
    simp only [if_neg hy]
    rcases h1 with rfl | rfl <;> rcases hm with rfl | rfl <;> simp [l_pfine_3, hl, hv, hv1, a, a0, hwj, ← hz, k1, k2]
/-- one cell -/
theorem pfine4 (hw : 8 ≤ w) (hw2 : w ≤ 40) (hM : M.length ≤ 5) (hr : row.length ≤ 900) (hP : P.length = row.length) {m1 mp : MV} (h1 : IsL m1 (madeD w g)) (hm : IsL mp (P.map prD)) {c : Nat} (hc : c < row.length) (x5 x6 x7 x8 x9 x10 x11 : Option MV) :
    ∃ y5 y6 y7 y8 y9 y10 y11, l_pfine_4 [some m1, some (.val (.tup (M.map DV.int))), some (.val (.lst (row.map DV.int))), some mp, some (.val (.int c)), x5, x6, x7, x8, x9, x10, x11] =
      if cellOK w g M row P c then .nx [some m1, some (.val (.tup (M.map DV.int))), some (.val (.lst (row.map DV.int))), some mp, some (.val (.int c)), y5, y6, y7, y8, y9, y10, y11]
      else .ret (.val (.bl false)) [some m1, some (.val (.tup (M.map DV.int))), some (.val (.lst (row.map DV.int))), some mp, some (.val (.int c)), y5, y6, y7, y8, y9, y10, y11] := by
  obtain ⟨s, ⟨y5, y6, y7, y8, y9, y10, y11, rfl⟩, e⟩ := loop_chk (p := .nm 5) (b := l_pfine_3) wyD (fun y => holdB w g M row P (c, y)) (fun s => ∃ y5 y6 y7 y8 y9 y10 y11, s = [some m1, some (.val (.tup (M.map DV.int))), some (.val (.lst (row.map DV.int))), some mp, some (.val (.int c)), y5, y6, y7, y8, y9, y10, y11]) (.val (.bl false)) (wysL row c)
    [some m1, some (.val (.tup (M.map DV.int))), some (.val (.lst (row.map DV.int))), some mp, some (.val (.int c)), x5, x6, x7, x8, x9, x10, x11] ⟨x5, x6, x7, x8, x9, x10, x11, rfl⟩ (by
      rintro y hy s ⟨y5, y6, y7, y8, y9, y10, y11, rfl⟩
      obtain ⟨z6, z7, z8, z9, z10, z11, h⟩ := pfine3 hw hw2 hM hr hP h1 hm (p := (c, y)) hc y6 y7 y8 y9 y10 y11
      refine ⟨_, _, by rw [bindP_nm, if_pos (by simp)], ⟨some (.val (wyD y)), z6, z7, z8, z9, z10, z11, rfl⟩, ?_⟩
      simp only [List.set_cons_succ, List.set_cons_zero]
      exact h)
  refine ⟨y5, y6, y7, y8, y9, y10, y11, ?_⟩
  change _ = if cellOK w g M row P c then _ else _ at e
  rw [← e]
  have hwy := lbegin_ok (row := row) (c := c) (by omega)
  generalize (wysL row c).map wyD = TW at *
  generalize row.map DV.int = TR at *
  generalize M.map DV.int = TM at *
  simp [l_pfine_4, hwy]
theorem pfine_ok (hw : 8 ≤ w) (hw2 : w ≤ 40) (hM : M.length ≤ 5) (hr : row.length ≤ 900) {m1 mp : MV} (h1 : IsL m1 (madeD w g)) (hm : IsL mp (P.map prD)) :
    r_pfine [m1, .val (.tup (M.map DV.int)), .val (.lst (row.map DV.int)), mp] = .ok (.val (.bl (accLP w g M row P))) [m1, .val (.tup (M.map DV.int)), .val (.lst (row.map DV.int)), mp] := by
  have hn : ((row.map DV.int).length : Int) = row.length := by simp
  have hnp : ((P.map prD).length : Int) = P.length := by simp
  have hv : mp.view = .lst (P.map prD) := by rcases hm with rfl | rfl <;> rfl
  unfold accLP
  by_cases hP : P.length = row.length
  · obtain ⟨s, ⟨y4, y5, y6, y7, y8, y9, y10, y11, rfl⟩, e⟩ := loop_chk (p := .nm 4) (b := l_pfine_4) (fun k : Nat => DV.int k) (cellOK w g M row P) (fun s => ∃ y4 y5 y6 y7 y8 y9 y10 y11, s = [some m1, some (.val (.tup (M.map DV.int))), some (.val (.lst (row.map DV.int))), some mp, y4, y5, y6, y7, y8, y9, y10, y11]) (.val (.bl false)) (List.range row.length)
      [some m1, some (.val (.tup (M.map DV.int))), some (.val (.lst (row.map DV.int))), some mp, none, none, none, none, none, none, none, none] ⟨none, none, none, none, none, none, none, none, rfl⟩ (by
        rintro c hc s ⟨y4, y5, y6, y7, y8, y9, y10, y11, rfl⟩
        obtain ⟨z5, z6, z7, z8, z9, z10, z11, h⟩ := pfine4 hw hw2 hM hr hP h1 hm (List.mem_range.mp hc) y5 y6 y7 y8 y9 y10 y11
        refine ⟨_, _, by rw [bindP_nm, if_pos (by simp)], ⟨some (.val (.int c)), z5, z6, z7, z8, z9, z10, z11, rfl⟩, ?_⟩
        simp only [List.set_cons_succ, List.set_cons_zero]
        exact h)
    have hu : (List.range row.length).map (fun k : Nat => DV.int k) = ups 0 (row.length : Int) := by
      rw [List.range_eq_range']
      exact (ups_range' 0 row.length).symm
    have z1 : small62 (row.length : Int) := small62_of (by omega) (by omega)
    rw [hu, ← hn] at e
    rw [← hn] at z1
    have hq : ((P.map prD).length : Int) = ((row.map DV.int).length : Int) := by omega
    rw [decide_eq_true hP, Bool.true_and]
    generalize (List.range row.length).all (cellOK w g M row P) = CO at *
    generalize M.map DV.int = TM at *
    generalize row.map DV.int = TR at *
    generalize P.map prD = TP at *
    cases CO
    · simp only [if_neg (show ¬ (false = true) by simp)] at e
      rcases hm with rfl | rfl <;> simp [r_pfine, b_pfine, hq, z1, e]
    · simp only [if_pos rfl] at e
      rcases hm with rfl | rfl <;> simp [r_pfine, b_pfine, hq, z1, e]
  · have hq : ¬ ((P.map prD).length : Int) = ((row.map DV.int).length : Int) := by omega
    rw [decide_eq_false hP, Bool.false_and]
    generalize M.map DV.int = TM at *
    generalize row.map DV.int = TR at *
    generalize P.map prD = TP at *
    rcases hm with rfl | rfl <;> simp [r_pfine, b_pfine, hq]
end
end Sy
namespace Sy
open PySem PySem.Spec PyProof.Rows L2
/-! ### lines put together and their cost, where the shape is data -/
section
variable {M : List Int} {g : Nat → Bool}
theorem wol_loopV (C D : Addr) (w : Int) (g : Nat → Bool) (hM : M.length ≤ 1000) (n : Nat) (L : List Int) (hL : L.length ≤ 1000) (s4 : Option MV) : ∀ (ys : List Way) (x5 x6 : Option MV), ∃ y5 y6,
    loop (.nm 5) (l_wol_1 C D) (ys.map fun y => .str y.s) [some (.val (shD C D w g)), some (.val (.tup (M.map DV.int))), some (.val (.int n)), some (.val (.tup (L.map DV.int))), s4, x5, x6] =
      match wolW M g L ys with
      | none => .nx [some (.val (shD C D w g)), some (.val (.tup (M.map DV.int))), some (.val (.int n)), some (.val (.tup (L.map DV.int))), s4, y5, y6]
      | some r => .ret (.val (wolD (some r))) [some (.val (shD C D w g)), some (.val (.tup (M.map DV.int))), some (.val (.int n)), some (.val (.tup (L.map DV.int))), s4, y5, y6]
  | [], x5, x6 => ⟨x5, x6, rfl⟩
  | y :: ys, x5, x6 => by
    have hb := begV C D w g M y
    have hl := beg_len (g := g) hM y
    have he : eqD (.tup ((L.map DV.int).take (begL M g y).length)) (.tup ((begL M g y).map DV.int)) = bl (decide (L.take (begL M g y).length = begL M g y)) := by
      rw [← List.map_take, eqD_tints (by simp; omega) (by omega)]
    obtain ⟨z5, z6, ih⟩ := wol_loopV C D w g hM n L hL s4 ys (some (.val (.str y.s))) (some (.val (.tup ((begL M g y).map DV.int))))
    have hbd : bindP (.nm 5) (.str y.s) [some (.val (shD C D w g)), some (.val (.tup (M.map DV.int))), some (.val (.int n)), some (.val (.tup (L.map DV.int))), s4, x5, x6] = some [some (.val (shD C D w g)), some (.val (.tup (M.map DV.int))), some (.val (.int n)), some (.val (.tup (L.map DV.int))), s4, some (.val (.str y.s)), x6] := by simp
    have hlb : ((begL M g y).map DV.int).length = (begL M g y).length := by simp
    have hlL : (L.map DV.int).length = L.length := by simp
    have hdr : (L.drop (begL M g y).length).map DV.int = (L.map DV.int).drop (begL M g y).length := by rw [List.map_drop]
    rw [List.map_cons]
    unfold wolW
    cases hf : fitW M g L y with
    | true =>
      simp only [if_true]
      refine ⟨some (.val (.str y.s)), some (.val (.tup ((begL M g y).map DV.int))), ?_⟩
      unfold fitW at hf
      rw [Bool.and_eq_true] at hf
      obtain ⟨f1, f2⟩ := hf
      rw [f1] at he
      have f2 : ((begL M g y).length : Int) < (L.length : Int) := by have := of_decide_eq_true f2; omega
      simp only [wolD, hdr]
      generalize hB : (begL M g y).map DV.int = B at *
      generalize M.map DV.int = TM at *
      generalize L.map DV.int = TL at *
      have step : l_wol_1 C D [some (.val (shD C D w g)), some (.val (.tup TM)), some (.val (.int n)), some (.val (.tup TL)), s4, some (.val (.str y.s)), x6] = .ret (.val (.tup [.str y.s, .tup (TL.drop (begL M g y).length)])) [some (.val (shD C D w g)), some (.val (.tup TM)), some (.val (.int n)), some (.val (.tup TL)), s4, some (.val (.str y.s)), some (.val (.tup B))] := by
        simp [l_wol_1, hb, hlb, hlL, he, f2]
      simp only [loop, hbd, step]
    | false =>
      simp only [Bool.false_eq_true, if_false]
      refine ⟨z5, z6, ?_⟩
      unfold fitW at hf
      have hf2 : (decide (L.take (begL M g y).length = begL M g y)) = false ∨ ¬ ((begL M g y).length : Int) < (L.length : Int) := by
        rw [Bool.and_eq_false_iff] at hf
        rcases hf with h | h
        · exact .inl h
        · exact .inr (by have := of_decide_eq_false h; omega)
      rw [← ih]
      generalize hB : (begL M g y).map DV.int = B at *
      generalize M.map DV.int = TM at *
      generalize L.map DV.int = TL at *
      have step : l_wol_1 C D [some (.val (shD C D w g)), some (.val (.tup TM)), some (.val (.int n)), some (.val (.tup TL)), s4, some (.val (.str y.s)), x6] = .nx [some (.val (shD C D w g)), some (.val (.tup TM)), some (.val (.int n)), some (.val (.tup TL)), s4, some (.val (.str y.s)), some (.val (.tup B))] := by
        rcases hf2 with h | h
        · rw [h] at he
          simp [l_wol_1, hb, hlb, he]
        · cases hd : decide (L.take (begL M g y).length = begL M g y) <;> rw [hd] at he <;> simp [l_wol_1, hb, hlb, hlL, he, h]
      simp only [loop, hbd, step]
theorem wol_okV (C D : Addr) (w : Int) (g : Nat → Bool) (hM : M.length ≤ 1000) (n : Nat) (L : List Int) (hL : L.length ≤ 1000) : r_wol C D [.val (shD C D w g), .val (.tup (M.map DV.int)), .val (.int n), .val (.tup (L.map DV.int))] =
    .ok (.val (wolD (wolW M g L (waysN n)))) [.val (shD C D w g), .val (.tup (M.map DV.int)), .val (.int n), .val (.tup (L.map DV.int))] := by
  by_cases hn : n = 0
  · subst hn
    obtain ⟨y5, y6, q⟩ := wol_loopV C D w g hM 0 L hL (some (.val (.lst [.str "first"]))) [.first] none none
    have hw : waysN 0 = [.first] := rfl
    rw [hw]
    simp only [Int.ofNat_zero] at q
    have hm : ([Way.first].map fun y => DV.str y.s) = [.str "first"] := rfl
    rw [hm] at q
    generalize wolW M g L [.first] = R at *
    generalize M.map DV.int = TM at *
    generalize L.map DV.int = TL at *
    cases R with
    | none => simp only at q; simp [r_wol, b_wol, q, wolD]
    | some r => simp only at q; simp [r_wol, b_wol, q]
  · obtain ⟨y5, y6, q⟩ := wol_loopV C D w g hM n L hL (some (.val (.lst [.str "on", .str "joined"]))) [.on, .joined] none none
    have hw : waysN n = [.on, .joined] := by unfold waysN; rw [if_neg hn]
    rw [hw]
    have hm : ([Way.on, Way.joined].map fun y => DV.str y.s) = [.str "on", .str "joined"] := rfl
    rw [hm] at q
    have hn' : ¬ (n : Int) = 0 := by omega
    generalize wolW M g L [.on, .joined] = R at *
    generalize M.map DV.int = TM at *
    generalize L.map DV.int = TL at *
    cases R with
    | none => simp only at q; simp [r_wol, b_wol, q, wolD, hn]
    | some r => simp only at q; simp [r_wol, b_wol, q, hn]
theorem unb_loopV (E0 C D : Addr) (w : Int) (g : Nat → Bool) (hM : M.length ≤ 1000) (s1 : Option MV) : ∀ (Ls : List (List Int)) (n : Nat) (acc : List Int) (x4 x5 x6 x7 x8 : Option MV), (∀ L ∈ Ls, L.length ≤ 1000) → acc.length + 1001 * Ls.length ≤ 10000000 → ∃ y3 y4 y5 y6 y7 y8,
    loop (.tp [.nm 4, .nm 5]) (l_unb_1 E0 C D) ((List.range' n Ls.length).zipWith (fun (k : Nat) (d : DV) => .tup [.int k, d]) (lnD Ls)) [some (.val (shD C D w g)), s1, some (.val (.tup (M.map DV.int))), some (.lst (acc.map DV.int)), x4, x5, x6, x7, x8] =
      match unbF M g n Ls acc with
      | .ok R => .nx [some (.val (shD C D w g)), s1, some (.val (.tup (M.map DV.int))), some (.lst (R.map DV.int)), y4, y5, y6, y7, y8]
      | .error k => .exc ⟨E0, ["reason", "place"], [.str "line", .tup [.int k]]⟩ [some (.val (shD C D w g)), s1, some (.val (.tup (M.map DV.int))), y3, y4, y5, y6, y7, y8]
  | [], n, acc, x4, x5, x6, x7, x8, _, _ => ⟨none, x4, x5, x6, x7, x8, rfl⟩
  | L :: Ls, n, acc, x4, x5, x6, x7, x8, hL, hl => by
    have hL0 := hL L (by simp)
    have hw := wol_okV C D w g hM n L hL0
    have hcons : (List.range' n (L :: Ls).length).zipWith (fun (k : Nat) (d : DV) => DV.tup [.int k, d]) (lnD (L :: Ls)) = .tup [.int n, .tup (L.map DV.int)] :: (List.range' (n + 1) Ls.length).zipWith (fun (k : Nat) (d : DV) => DV.tup [.int k, d]) (lnD Ls) := by
      rw [List.length_cons, List.range'_succ]
      rfl
    rw [hcons]
    have hbd : bindP (.tp [.nm 4, .nm 5]) (.tup [.int n, .tup (L.map DV.int)]) [some (.val (shD C D w g)), s1, some (.val (.tup (M.map DV.int))), some (.lst (acc.map DV.int)), x4, x5, x6, x7, x8] = some [some (.val (shD C D w g)), s1, some (.val (.tup (M.map DV.int))), some (.lst (acc.map DV.int)), some (.val (.int n)), some (.val (.tup (L.map DV.int))), x6, x7, x8] := by simp
    unfold unbF
    cases hR : wolW M g L (waysN n) with
    | none =>
      rw [hR] at hw
      simp only [wolD] at hw
      refine ⟨some (.lst (acc.map DV.int)), some (.val (.int n)), some (.val (.tup (L.map DV.int))), some (.val .non), x7, x8, ?_⟩
      generalize M.map DV.int = TM at *
      generalize L.map DV.int = TL at *
      generalize acc.map DV.int = TA at *
      have step : l_unb_1 E0 C D [some (.val (shD C D w g)), s1, some (.val (.tup TM)), some (.lst TA), some (.val (.int n)), some (.val (.tup TL)), x6, x7, x8] = .exc ⟨E0, ["reason", "place"], [.str "line", .tup [.int n]]⟩ [some (.val (shD C D w g)), s1, some (.val (.tup TM)), some (.lst TA), some (.val (.int n)), some (.val (.tup TL)), some (.val .non), x7, x8] := by
        simp [l_unb_1, hw]
      simp only [loop, hbd, step]
    | some r =>
      obtain ⟨y, P⟩ := r
      rw [hR] at hw
      have hP := wolW_drop hR
      simp only [wolD] at hw
      have hon := way_on y
      have ho : (onW y).length ≤ 1 := by unfold onW; split <;> simp
      obtain ⟨y3, y4, y5, y6, y7, y8, ih⟩ := unb_loopV E0 C D w g hM s1 Ls (n + 1) (acc ++ onW y ++ P) (some (.val (.int n))) (some (.val (.tup (L.map DV.int)))) (some (.val (.tup [.str y.s, .tup (P.map DV.int)]))) (some (.val (.str y.s))) (some (.val (.tup (P.map DV.int)))) (fun z hz => hL z (by simp [hz])) (by simp at hl ⊢; omega)
      refine ⟨y3, y4, y5, y6, y7, y8, ?_⟩
      simp only
      rw [← ih]
      have hap : (acc ++ onW y ++ P).map DV.int = acc.map DV.int ++ (onW y).map DV.int ++ P.map DV.int := by simp
      rw [hap]
      have g1 : (acc.map DV.int).length ≤ 10000000 := by simp at hl ⊢; omega
      have g2 : (acc.map DV.int).length + 1 + (P.map DV.int).length ≤ 10000000 := by simp at hl ⊢; omega
      have g3 : (acc.map DV.int).length + (P.map DV.int).length ≤ 10000000 := by omega
      generalize M.map DV.int = TM at *
      generalize L.map DV.int = TL at *
      generalize acc.map DV.int = TA at *
      generalize P.map DV.int = TP at *
      have step : l_unb_1 E0 C D [some (.val (shD C D w g)), s1, some (.val (.tup TM)), some (.lst TA), some (.val (.int n)), some (.val (.tup TL)), x6, x7, x8] = .nx [some (.val (shD C D w g)), s1, some (.val (.tup TM)), some (.lst (TA ++ (onW y).map DV.int ++ TP)), some (.val (.int n)), some (.val (.tup TL)), some (.val (.tup [.str y.s, .tup TP])), some (.val (.str y.s)), some (.val (.tup TP))] := by
        by_cases hy : y = .on
        · rw [decide_eq_true hy] at hon
          have ho1 : (onW y).map DV.int = [.int 0] := by simp [onW, hy]
          rw [ho1]
          simp [l_unb_1, hw, hon, g1, g2]
        · rw [decide_eq_false hy] at hon
          have ho1 : (onW y).map DV.int = [] := by simp [onW, hy]
          rw [ho1]
          simp [l_unb_1, hw, hon, g3]
      simp only [loop, hbd, step]
theorem unb_okV (E0 C D : Addr) (w : Int) (g : Nat → Bool) (hM : M.length ≤ 1000) {Ls : List (List Int)} {m : MV} (hm : IsL m (lnD Ls)) (hL : ∀ L ∈ Ls, L.length ≤ 1000) (hl : Ls.length ≤ 1000) :
    r_unb E0 C D [.val (shD C D w g), m, .val (.tup (M.map DV.int))] = match unbF M g 0 Ls [] with
      | .ok R => .ok (.lst (R.map DV.int)) [.val (shD C D w g), .val (.lst (lnD Ls)), .val (.tup (M.map DV.int))]
      | .error k => .exc ⟨E0, ["reason", "place"], [.str "line", .tup [.int k]]⟩ [.val (shD C D w g), .val (.lst (lnD Ls)), .val (.tup (M.map DV.int))] := by
  obtain ⟨y3, y4, y5, y6, y7, y8, q⟩ := unb_loopV E0 C D w g hM (some (.val (.lst (lnD Ls)))) Ls 0 [] none none none none none hL (by simp; omega)
  have hz : (List.range' 0 Ls.length).zipWith (fun (k : Nat) (d : DV) => DV.tup [.int k, d]) (lnD Ls) = numbered (lnD Ls) := by rw [num_zip]; simp [lnD]
  rw [hz] at q
  simp only [List.map_nil] at q
  generalize lnD Ls = T at *
  generalize M.map DV.int = TM at *
  cases hR : unbF M g 0 Ls [] with
  | ok R =>
    rw [hR] at q
    simp only at q ⊢
    generalize R.map DV.int = TR at *
    rcases hm with rfl | rfl <;> simp [r_unb, b_unb, q]
  | error k =>
    rw [hR] at q
    simp only at q ⊢
    rcases hm with rfl | rfl <;> simp [r_unb, b_unb, q]
theorem cost_loopV (C D : Addr) (w : Int) (g : Nat → Bool) (hw : 0 ≤ w) (hw2 : w ≤ 1000) (T : List DV) (N : Nat) (hT : T.length = N) : ∀ (Ls : List (List Int)) (n : Nat) (acc : Int) (x4 x5 : Option MV), (∀ L ∈ Ls, L.length ≤ 1000) → ∃ y4 y5,
    loop (.tp [.nm 4, .nm 5]) (l_costof_1 C D) ((List.range' n Ls.length).zipWith (fun (k : Nat) (d : DV) => .tup [.int k, d]) (lnD Ls)) [some (.val (shD C D w g)), some (.val (.lst T)), some (.val (.int acc)), some (.val (.tup (mD 48 (g 7)))), x4, x5] =
      .nx [some (.val (shD C D w g)), some (.val (.lst T)), some (.val (.int (acc + cstF w (mrow 48 (g 7)) N n Ls))), some (.val (.tup (mD 48 (g 7)))), y4, y5]
  | [], n, acc, x4, x5, _ => ⟨x4, x5, by simp [loop, cstF, lnD]⟩
  | L :: Ls, n, acc, x4, x5, hL => by
    have hL0 := hL L (by simp)
    have hc := lncV (w := w) C D g L hw hw2 hL0
    have hcons : (List.range' n (L :: Ls).length).zipWith (fun (k : Nat) (d : DV) => DV.tup [.int k, d]) (lnD (L :: Ls)) = .tup [.int n, .tup (L.map DV.int)] :: (List.range' (n + 1) Ls.length).zipWith (fun (k : Nat) (d : DV) => DV.tup [.int k, d]) (lnD Ls) := by
      rw [List.length_cons, List.range'_succ]
      rfl
    rw [hcons]
    have hbd : bindP (.tp [.nm 4, .nm 5]) (.tup [.int n, .tup (L.map DV.int)]) [some (.val (shD C D w g)), some (.val (.lst T)), some (.val (.int acc)), some (.val (.tup (mD 48 (g 7)))), x4, x5] = some [some (.val (shD C D w g)), some (.val (.lst T)), some (.val (.int acc)), some (.val (.tup (mD 48 (g 7)))), some (.val (.int n)), some (.val (.tup (L.map DV.int)))] := by simp
    have he : eqD (.tup ((L.map DV.int).take (mD 48 (g 7)).length)) (.tup (mD 48 (g 7))) = bl (decide (L.take (mrow 48 (g 7)).length = mrow 48 (g 7))) := by
      have e1 : (mD 48 (g 7)).length = (mrow 48 (g 7)).length := by simp [mD]
      rw [e1, ← List.map_take]
      unfold mD
      rw [eqD_tints (by simp; omega) (by simp [mrow]; split <;> simp)]
    have hlm : ((mD 48 (g 7)).length : Int) = ((mD 48 (g 7)).length : Nat) := rfl
    obtain ⟨y4, y5, ih⟩ := cost_loopV C D w g hw hw2 T N hT Ls (n + 1) (acc + (if n + 1 < N then (w - L.length) ^ 2 else 0) + (if 0 < n ∧ L.take (mrow 48 (g 7)).length = mrow 48 (g 7) then 50 else 0)) (some (.val (.int n))) (some (.val (.tup (L.map DV.int)))) fun z hz => hL z (by simp [hz])
    refine ⟨y4, y5, ?_⟩
    have hsum : acc + cstF w (mrow 48 (g 7)) N n (L :: Ls) = acc + (if n + 1 < N then (w - L.length) ^ 2 else 0) + (if 0 < n ∧ L.take (mrow 48 (g 7)).length = mrow 48 (g 7) then 50 else 0) + cstF w (mrow 48 (g 7)) N (n + 1) Ls := by
      rw [cstF]
      omega
    rw [hsum, ← ih]
    have step : l_costof_1 C D [some (.val (shD C D w g)), some (.val (.lst T)), some (.val (.int acc)), some (.val (.tup (mD 48 (g 7)))), some (.val (.int n)), some (.val (.tup (L.map DV.int)))] =
        .nx [some (.val (shD C D w g)), some (.val (.lst T)), some (.val (.int (acc + (if n + 1 < N then (w - L.length) ^ 2 else 0) + (if 0 < n ∧ L.take (mrow 48 (g 7)).length = mrow 48 (g 7) then 50 else 0)))), some (.val (.tup (mD 48 (g 7)))), some (.val (.int n)), some (.val (.tup (L.map DV.int)))] := by
      have c1 : ((n : Int) < (T.length : Int) - 1) = (n + 1 < N) := by rw [hT]; exact propext ⟨fun h => by omega, fun h => by omega⟩
      have c2 : (0 < (n : Int)) = (0 < n) := propext ⟨fun h => by omega, fun h => by omega⟩
      generalize mD 48 (g 7) = J at *
      generalize L.map DV.int = TL at *
      by_cases h1 : n + 1 < N
      · have h1' := h1
        rw [← c1] at h1'
        by_cases h2 : 0 < n
        · have h2' := h2
          rw [← c2] at h2'
          by_cases h3 : L.take (mrow 48 (g 7)).length = mrow 48 (g 7)
          · rw [decide_eq_true h3] at he
            simp only [if_pos h1, if_pos (And.intro h2 h3)]
            simp [l_costof_1, h1', h2', h2, he, hc]
          · rw [decide_eq_false h3] at he
            simp only [if_pos h1, if_neg (fun z : 0 < n ∧ _ => h3 z.2)]
            simp [l_costof_1, h1', h2', h2, he, hc]
        · have h2' := h2
          rw [← c2] at h2'
          simp only [if_pos h1, if_neg (fun z : 0 < n ∧ _ => h2 z.1)]
          simp [l_costof_1, h1', h2', h2, hc]
      · have h1' := h1
        rw [← c1] at h1'
        by_cases h2 : 0 < n
        · have h2' := h2
          rw [← c2] at h2'
          by_cases h3 : L.take (mrow 48 (g 7)).length = mrow 48 (g 7)
          · rw [decide_eq_true h3] at he
            simp only [if_neg h1, if_pos (And.intro h2 h3)]
            simp [l_costof_1, h1', h2', h2, he]
          · rw [decide_eq_false h3] at he
            simp only [if_neg h1, if_neg (fun z : 0 < n ∧ _ => h3 z.2)]
            simp [l_costof_1, h1', h2', h2, he]
        · have h2' := h2
          rw [← c2] at h2'
          simp only [if_neg h1, if_neg (fun z : 0 < n ∧ _ => h2 z.1)]
          simp [l_costof_1, h1', h2', h2]
    simp only [loop, hbd, step]
theorem costof_okV (C D : Addr) (w : Int) (g : Nat → Bool) (hw : 0 ≤ w) (hw2 : w ≤ 1000) {Ls : List (List Int)} {m : MV} (hm : IsL m (lnD Ls)) (hL : ∀ L ∈ Ls, L.length ≤ 1000) (hl : Ls.length ≤ 1000) :
    r_costof C D [.val (shD C D w g), m] = .ok (.val (.int (cstF w (mrow 48 (g 7)) Ls.length 0 Ls))) [.val (shD C D w g), .val (.lst (lnD Ls))] := by
  obtain ⟨y4, y5, q⟩ := cost_loopV C D w g hw hw2 (lnD Ls) Ls.length (by simp [lnD]) Ls 0 0 none none hL
  have hz : (List.range' 0 Ls.length).zipWith (fun (k : Nat) (d : DV) => DV.tup [.int k, d]) (lnD Ls) = numbered (lnD Ls) := by rw [num_zip]; simp [lnD]
  rw [hz, Int.zero_add] at q
  generalize lnD Ls = T at *
  rcases hm with rfl | rfl <;> simp [r_costof, b_costof, q]
/-! ### rows broken into lines -/
noncomputable def b_brkrow (B C D : Addr) : SM := (S.ret 3 (E.app listD (A.cons (E.bin ixD (E.bin dixD (E.tfld B "best" (E.make B 4 (r_binit B C D) (A.cons (E.var 0) (A.cons (E.var 1) (A.cons (E.var 2) A.nil))))) (E.tup (A.cons (E.c (.int 0)) (A.cons (E.c (.str "first")) A.nil)))) (E.c (.int 1))) A.nil)))
noncomputable def r_brkrow (B C D : Addr) : FM := fn 3 0 [] (b_brkrow B C D)
noncomputable def m_isbrk_1 (D : Addr) : EM := (E.bin gtD (E.app lenD (A.cons (E.var 4) A.nil)) (E.un (fldD D "width") (E.var 0)))
noncomputable def b_isbrk (E0 C D : Addr) : SM := (S.seq (S.ife (T.tru (E.app anyD (A.cons (E.lc (I.lst (E.var 3)) (.nm 4) T.yes (m_isbrk_1 D) [4]) A.nil))) (S.ret 4 (E.c (.bl false))) S.nil)
    (S.tryNo E0 (S.retX 4 (E.binX eqD (E.callX 3 (r_unb E0 C D) (A.cons (E.var 0) (A.cons (E.var 3) (A.cons (E.var 1) A.nil)))) (E.var 2))) (S.ret 4 (E.c (.bl false)))))
noncomputable def r_isbrk (E0 C D : Addr) : FM := fn 4 1 [] (b_isbrk E0 C D)
/-- the row, broken into lines that are not too long -/
def unbB (row : List Int) : Except Nat (List Int) → Bool
  | .ok R => decide (R = row)
  | .error _ => false
def longs (w : Int) (Ls : List (List Int)) : List (List Int) := Ls.filter fun L => decide (w < (L.length : Int))
def longD (w : Int) : DV → DV
  | .tup xs => .bl (decide (w < (xs.length : Int)))
  | d => d
theorem long_any (w : Int) (Ls : List (List Int)) : anyD [.lst ((lnD Ls).map (longD w))] = bl (!decide (longs w Ls = [])) := by
  have e : (lnD Ls).map (longD w) = (Ls.map fun L => decide (w < (L.length : Int))).map DV.bl := by
    unfold lnD
    rw [List.map_map, List.map_map]
    refine List.map_congr_left fun L _ => ?_
    simp [longD]
  rw [e, anyD_bls, List.any_map]
  congr 1
  unfold longs
  cases hd : decide ((Ls.filter fun L => decide (w < (L.length : Int))) = []) with
  | true =>
    have := of_decide_eq_true hd
    rw [List.filter_eq_nil_iff] at this
    simp only [Bool.not_true, List.any_eq_false]
    intro L hL
    simpa using this L hL
  | false =>
    have := of_decide_eq_false hd
    rw [List.filter_eq_nil_iff] at this
    simp only [Bool.not_false, List.any_eq_true]
    have ⟨L, h1⟩ := Classical.not_forall.mp this
    have ⟨h2, h3⟩ := Classical.not_imp.mp h1
    exact ⟨L, h2, by simpa using h3⟩
theorem broken_okV (E0 C D : Addr) {w : Int} {row : List Int} (hw0 : 0 ≤ w) (hM : M.length ≤ 1000) (hr : row.length ≤ 1000) {mR mL : MV} (hR : IsL mR (row.map DV.int)) {Ls : List (List Int)} (hmL : IsL mL (lnD Ls)) (hL : ∀ L ∈ Ls, L.length ≤ 1000) (hl : Ls.length ≤ 500) (hun : ∀ R, unbF M g 0 Ls [] = .ok R → R.length ≤ 1000000) :
    r_isbrk E0 C D [.val (shD C D w g), .val (.tup (M.map DV.int)), mR, mL] = .ok (.val (.bl (unbB row (unbF M g 0 Ls []) && decide (longs w Ls = [])))) [.val (shD C D w g), .val (.tup (M.map DV.int)), mR, .val (.lst (lnD Ls))] := by
  have q := unb_okV (M := M) E0 C D w g hM (Ls := Ls) (m := .val (.lst (lnD Ls))) (.inl rfl) hL (by omega)
  have q1 := lcl_read (i := 4) (m := m_isbrk_1 D) (b := [some (.val (shD C D w g)), some (.val (.tup (M.map DV.int))), some mR, some (.val (.lst (lnD Ls))), none]) (longD w) (lnD Ls) [] (by simp) (by simp) (by
    intro d hd
    obtain ⟨L, hL2, rfl⟩ := List.mem_map.mp hd
    refine ⟨.val (longD w (.tup (L.map DV.int))), ?_, rfl⟩
    simp only [longD]
    generalize L.map DV.int = TL at *
    simp [m_isbrk_1])
  rw [List.nil_append] at q1
  have ha := long_any w Ls
  have hvR : mR.view = .lst (row.map DV.int) := by rcases hR with rfl | rfl <;> rfl
  have gl : (lnD Ls).length ≤ 10000000 := by simp [lnD]; omega
  have heq : ∀ R, unbF M g 0 Ls [] = .ok R → eqD (.lst (R.map DV.int)) (.lst (row.map DV.int)) = bl (decide (R = row)) := fun R hR2 => by
    rw [eqD_lints (by have := hun R hR2; omega) (by omega)]
  generalize (lnD Ls).map (longD w) = A at *
  generalize lnD Ls = T at *
  generalize M.map DV.int = TM at *
  generalize row.map DV.int = TR at *
  cases hlo : decide (longs w Ls = []) with
  | false =>
    rw [hlo] at ha
    simp only [Bool.not_false] at ha
    rw [Bool.and_false]
    rcases hmL with rfl | rfl <;> simp [r_isbrk, b_isbrk, q1, gl, ha]
  | true =>
    rw [hlo] at ha
    simp only [Bool.not_true] at ha
    rw [Bool.and_true]
    cases hR : unbF M g 0 Ls [] with
    | ok R =>
      rw [hR] at q
      have he := heq R hR
      simp only [unbB] at q ⊢
      generalize R.map DV.int = TX at *
      rcases hR2 : decide (R = row) with _ | _ <;> rw [hR2] at he <;> rcases hmL with rfl | rfl <;> simp [r_isbrk, b_isbrk, q1, gl, ha, q, hvR, he]
    | error k =>
      rw [hR] at q
      simp only [unbB] at q ⊢
      rcases hmL with rfl | rfl <;> simp [r_isbrk, b_isbrk, q1, gl, ha, q]
end
end Sy
namespace Sy
open PySem PySem.Spec PyProof.Rows L2
/-! ### ways of breaking a row, and their cost -/
section
variable {B C D : Addr} {w : Int} {g : Nat → Bool} {M row : List Int} {A : BA} {P : List (Int × Int)}
inductive PathC (w : Int) (g : Nat → Bool) (M row : List Int) : Nat × Way → List (List Int) → Int → Prop
  | last {p : Nat × Way} (h : row.length ∈ endsP w g M row.length p.1 p.2) : PathC w g M row p [lineL g M row p row.length] 0
  | step {p q : Nat × Way} {e : Nat} {Ls : List (List Int)} {k : Int} (h : e ∈ endsP w g M row.length p.1 p.2) (he : e < row.length) (hq : q ∈ folL row e) (r : PathC w g M row q Ls k) :
      PathC w g M row p (lineL g M row p e :: Ls) ((w - (lineL g M row p e).length) ^ 2 + jcF q.2 + k)
theorem fol_ways {e : Nat} {q : Nat × Way} (h : q ∈ folL row e) : q.2 ≠ .first := by
  unfold folL at h
  rcases List.mem_cons.mp h with rfl | h
  · simp
  · split at h
    · simp at h
      subst h
      simp
    · simp at h
theorem done_fol (hw : 8 ≤ w) (hM : M.length ≤ 5) {c e : Nat} {y : Way} (h : e ∈ endsP w g M row.length c y) (he : e < row.length) {q : Nat × Way} (hq : q ∈ folL row e) : DoneA row 0 q :=
  ⟨Nat.zero_le _, (fol_mem he hq).1, fol_way (by have := ends_bd2 hw hM h; omega) hq⟩
theorem path_lt (hw : 8 ≤ w) (hM : M.length ≤ 5) {p : Nat × Way} {Ls : List (List Int)} {k : Int} (h : PathC w g M row p Ls k) : p.1 < row.length ∧ Ls.length + p.1 ≤ row.length ∧ (∀ L ∈ Ls, (L.length : Int) ≤ w) ∧ Ls ≠ [] := by
  induction h with
  | @last p h =>
    have hb := ends_bd2 hw hM h
    refine ⟨by omega, by simp; omega, ?_, by simp⟩
    intro L hL
    simp at hL
    subst hL
    simp only [lineL, List.length_append, List.length_take, List.length_drop]
    omega
  | @step p q e Ls k h he hq r ih =>
    have hb := ends_bd2 hw hM h
    have h2 := fol_mem2 hq
    refine ⟨by omega, by rw [List.length_cons]; omega, ?_, by simp⟩
    intro L hL
    rcases List.mem_cons.mp hL with rfl | hL
    · simp only [lineL, List.length_append, List.length_take, List.length_drop]
      omega
    · exact ih.2.2.1 L hL
/-- what is made is a way -/
theorem made_path (hw : 8 ≤ w) (hM : M.length ≤ 5) {S : Nat × Way → Prop} (hI : InvA w g M row A S) : ∀ (n : Nat) (p : Nat × Way) (v : BV), row.length - p.1 ≤ n → A.lookup p = some v → PathC w g M row p (v.2.items.map (·.items)) v.1
  | 0, p, v, hn, h => by
    have := (hI.cons p v h).2.n
    omega
  | n + 1, p, v, hn, h => by
    obtain ⟨_, hc⟩ := hI.cons p v h
    have hm := minB_mem (cands_ne (g := g) (A := A) (M := M) hw hM hc.n)
    rw [← hc.e] at hm
    unfold candsB at hm
    obtain ⟨k, hk, hm⟩ := List.mem_flatMap.mp hm
    have hb := ends_bd2 hw hM hk
    unfold candsE at hm
    split at hm
    · rename_i hkn
      simp at hm
      subst hm
      rw [hkn] at hk ⊢
      exact .last hk
    · obtain ⟨q, hq, rfl⟩ := List.mem_map.mp hm
      obtain ⟨u, hu⟩ := Option.isSome_iff_exists.mp (hc.f k hk (by omega) q hq)
      have h2 := fol_mem2 hq
      have ih := made_path hw hM hI n q u (by omega) hu
      rw [lookB_of hu]
      have := PathC.step (p := p) hk (by omega) hq ih
      rw [show (stepB w (lineL g M row p k) q u).1 = (w - (lineL g M row p k).length) ^ 2 + jcF q.2 + u.1 by simp only [stepB]; omega]
      exact this
/-- what is accepted is no more than any way costs -/
theorem acc_at (h : accLP w g M row P = true) : P.length = row.length ∧ ∀ p : Nat × Way, DoneA row 0 p → ∀ e ∈ endsP w g M row.length p.1 p.2, endOK w g M row P p e = true := by
  unfold accLP at h
  rw [Bool.and_eq_true, List.all_eq_true] at h
  refine ⟨of_decide_eq_true h.1, fun p hp e he => ?_⟩
  have h1 := h.2 p.1 (by simpa using hp.2.1)
  unfold cellOK at h1
  rw [List.all_eq_true] at h1
  have h2 := h1 p.2 hp.2.2
  unfold holdB at h2
  rw [List.all_eq_true] at h2
  exact h2 e he
theorem acc_low (hw : 8 ≤ w) (hM : M.length ≤ 5) (ha : accLP w g M row P = true) {p : Nat × Way} {Ls : List (List Int)} {k : Int} (h : PathC w g M row p Ls k) (hp : DoneA row 0 p) : priceP P p ≤ k := by
  obtain ⟨hl, hA⟩ := acc_at ha
  induction h with
  | @last p h =>
    have := hA p hp _ h
    unfold endOK at this
    rw [if_pos rfl] at this
    exact of_decide_eq_true this
  | @step p q e Ls k h he hq r ih =>
    have h1 := hA p hp _ h
    unfold endOK at h1
    rw [if_neg (by omega), List.all_eq_true] at h1
    have h2 := of_decide_eq_true (h1 q hq)
    have h3 := ih (done_fol hw hM h he hq)
    omega
/-- the least of the candidates -/
theorem lt_fst (x y : BV) : (PySem.W.DatumOrd.lt y x = true → y.1 ≤ x.1) ∧ (¬ PySem.W.DatumOrd.lt y x = true → x.1 ≤ y.1) := by
  have e : PySem.W.DatumOrd.lt y x = if y.1 = x.1 then PySem.W.DatumOrd.lt y.2 x.2 else PySem.W.DatumOrd.lt y.1 x.1 := rfl
  have e2 : PySem.W.DatumOrd.lt y.1 x.1 = decide (y.1 < x.1) := rfl
  rw [e]
  split
  · omega
  · rw [e2, decide_eq_true_eq]
    omega
theorem minOf_fst : ∀ (xs : List BV) (x y : BV), y ∈ x :: xs → (PySem.W.minOf x xs).1 ≤ y.1
  | [], x, y, h => by
    simp at h
    subst h
    exact Int.le_refl _
  | z :: xs, x, y, h => by
    have e : PySem.W.minOf x (z :: xs) = PySem.W.minOf (if PySem.W.DatumOrd.lt z x = true then z else x) xs := rfl
    rw [e]
    have hl := lt_fst x z
    have h0 := fun u hu => minOf_fst xs (if PySem.W.DatumOrd.lt z x = true then z else x) u hu
    have h1 := h0 _ (List.mem_cons_self ..)
    rcases List.mem_cons.mp h with rfl | h
    · refine Int.le_trans h1 ?_
      split
      · rename_i hz; exact hl.1 hz
      · exact Int.le_refl _
    · rcases List.mem_cons.mp h with rfl | h
      · refine Int.le_trans h1 ?_
        split
        · exact Int.le_refl _
        · rename_i hz; exact hl.2 hz
      · exact h0 y (by simp [h])
theorem minB_fst {l : List BV} {y : BV} (h : y ∈ l) : (minB l).1 ≤ y.1 := by
  cases l with
  | nil => simp at h
  | cons x xs => exact minOf_fst xs x y h
theorem price_made (hI : InvA w g M row A (DoneA row 0)) {p : Nat × Way} {v : BV} (h : A.lookup p = some v) : priceP ((List.range row.length).map (prA A)) p = v.1 := by
  obtain ⟨hp, hc⟩ := hI.cons p v h
  have e : ((List.range row.length).map (prA A)).getD p.1 (0, 0) = prA A p.1 := by
    rw [List.getD_eq_getElem?_getD, List.getElem?_map, List.getElem?_range hc.n]
    rfl
  unfold priceP
  rw [e]
  obtain ⟨c, y⟩ := p
  cases y with
  | joined => simp [prA, lookB_of h]
  | first => simp [prA, h]
  | on =>
    have hn : A.lookup (c, .first) = none := by
      cases e1 : A.lookup (c, Way.first) with
      | none => rfl
      | some u =>
        have h1 := (hI.cons _ u e1).1.2.2
        have h2 := hp.2.2
        exfalso
        simp only at h1 h2
        unfold wysL at h1 h2
        by_cases hc0 : c = 0
        · rw [if_pos hc0] at h2; simp at h2
        · rw [if_neg hc0] at h1
          split at h1 <;> simp at h1
    simp [prA, hn, lookB_of h]
theorem made_acc (hw : 8 ≤ w) (hM : M.length ≤ 5) (hI : InvA w g M row A (DoneA row 0)) : accLP w g M row ((List.range row.length).map (prA A)) = true := by
  unfold accLP
  rw [Bool.and_eq_true, List.all_eq_true]
  refine ⟨by simp, fun c hc => ?_⟩
  unfold cellOK
  rw [List.all_eq_true]
  intro y hy
  unfold holdB
  rw [List.all_eq_true]
  intro e he
  have hd : DoneA row 0 (c, y) := ⟨Nat.zero_le _, by simpa using hc, hy⟩
  obtain ⟨v, hv⟩ := Option.isSome_iff_exists.mp (hI.full (c, y) hd)
  have hcb := (hI.cons _ v hv).2
  have hb := ends_bd2 hw hM he
  unfold endOK
  rw [price_made hI hv]
  have hin : ∀ x ∈ candsE w g M row A (c, y) e, v.1 ≤ x.1 := fun x hx => by
    rw [hcb.e]
    exact minB_fst (List.mem_flatMap.mpr ⟨e, he, hx⟩)
  unfold candsE at hin
  split
  · rename_i h
    rw [if_pos h] at hin
    have := hin _ (List.mem_cons_self ..)
    simpa using this
  · rename_i h
    rw [if_neg h] at hin
    rw [List.all_eq_true]
    intro q hq
    obtain ⟨u, hu⟩ := Option.isSome_iff_exists.mp (hI.full q (done_fol hw hM he (by omega) hq))
    have := hin _ (List.mem_map.mpr ⟨q, hq, rfl⟩)
    rw [lookB_of hu] at this
    unfold follOK
    rw [price_made hI hu, decide_eq_true_eq]
    simp only [stepB] at this
    omega
end
end Sy
namespace Sy
open PySem PySem.Spec PyProof.Rows L2
/-! ### ways of breaking a row, put together again -/
section
variable {B C D : Addr} {w : Int} {g : Nat → Bool} {M row : List Int} {A : BA} {P : List (Int × Int)}
theorem on_ne_joined (g : Nat → Bool) (X : List Int) : ¬ (begL M g .joined ++ X).take (begL M g .on).length = begL M g .on := by
  show ¬ (mrow 48 (g 7) ++ X).take (mrow 47 (g 7)).length = mrow 47 (g 7)
  unfold mrow
  cases g 7 <;> simp
theorem joined_ne_on (g : Nat → Bool) (X : List Int) : ¬ (begL M g .on ++ X).take (mrow 48 (g 7)).length = mrow 48 (g 7) := by
  show ¬ (mrow 47 (g 7) ++ X).take (mrow 48 (g 7)).length = mrow 48 (g 7)
  unfold mrow
  cases g 7 <;> simp
theorem wol_line {n : Nat} {y : Way} {X : List Int} (hX : X ≠ []) (h : (n = 0 ∧ y = .first) ∨ (n ≠ 0 ∧ y ≠ .first)) : wolW M g (begL M g y ++ X) (waysN n) = some (y, X) := by
  have hl : 0 < X.length := List.length_pos_iff.mpr hX
  have hfit : ∀ z, fitW M g (begL M g z ++ X) z = true := fun z => by
    unfold fitW
    rw [Bool.and_eq_true, decide_eq_true_eq, decide_eq_true_eq]
    exact ⟨by rw [List.take_left'] <;> rfl, by simp; omega⟩
  have hdr : ∀ z, (begL M g z ++ X).drop (begL M g z).length = X := fun z => List.drop_left' rfl
  rcases h with ⟨rfl, rfl⟩ | ⟨hn, hy⟩
  · have hw : waysN 0 = [.first] := rfl
    rw [hw, wolW, if_pos (hfit _), hdr]
  · have hw : waysN n = [.on, .joined] := by unfold waysN; rw [if_neg hn]
    rw [hw]
    cases y with
    | first => exact absurd rfl hy
    | on => rw [wolW, if_pos (hfit _), hdr]
    | joined =>
      have : fitW M g (begL M g .joined ++ X) .on = false := by
        unfold fitW
        rw [decide_eq_false (on_ne_joined g X), Bool.false_and]
      rw [wolW, this, wolW, if_pos (hfit _), hdr]
      rfl
theorem piece_ne {c e : Nat} (h : c < e) (he : e ≤ row.length) : (row.drop c).take (e - c) ≠ [] := by
  intro z
  have := congrArg List.length z
  simp at this
  omega
theorem piece_on {c e : Nat} (h : c < e) (he : e ≤ row.length) : (row.drop c).take (e - c) ++ row.drop e = row.drop c := by
  have h1 : row.drop e = (row.drop c).drop (e - c) := by rw [List.drop_drop]; congr 1; omega
  rw [h1, List.take_append_drop]
theorem drop_pat {e : Nat} (he : e < row.length) : row.drop e = pat row e :: row.drop (e + 1) := by
  rw [List.drop_eq_getElem_cons he]
  congr 1
  simp [pat, he]
theorem path_unb (hw : 8 ≤ w) (hM : M.length ≤ 5) {p : Nat × Way} {Ls : List (List Int)} {k : Int} (h : PathC w g M row p Ls k) : ∀ (n : Nat) (acc : List Int), ((n = 0 ∧ p.2 = .first) ∨ (n ≠ 0 ∧ p.2 ≠ .first)) → unbF M g n Ls acc = .ok (acc ++ onW p.2 ++ row.drop p.1) := by
  induction h with
  | @last p h =>
    intro n acc hn
    have hb := ends_bd2 hw hM h
    unfold unbF
    unfold lineL
    rw [wol_line (piece_ne hb.1 hb.2.1) hn]
    simp only
    unfold unbF
    congr 2
    have := piece_on (row := row) hb.1 hb.2.1
    rw [List.drop_length, List.append_nil] at this
    exact this
  | @step p q e Ls k h he hq r ih =>
    intro n acc hn
    have hb := ends_bd2 hw hM h
    unfold unbF
    unfold lineL
    rw [wol_line (piece_ne hb.1 hb.2.1) hn]
    simp only
    rw [ih (n + 1) _ (.inr ⟨by omega, fol_ways hq⟩)]
    have h1 := piece_on (row := row) hb.1 hb.2.1
    have h2 : onW q.2 ++ row.drop q.1 = row.drop e := by
      unfold folL at hq
      rcases List.mem_cons.mp hq with rfl | hq
      · simp [onW]
      · split at hq
        · rename_i hc
          simp at hq
          subst hq
          rw [drop_pat he, hc.1]
          simp [onW]
        · simp at hq
    rw [List.append_assoc _ (onW q.2), h2, List.append_assoc _ _ (row.drop e), h1]
theorem path_cost (hw : 8 ≤ w) (hM : M.length ≤ 5) {p : Nat × Way} {Ls : List (List Int)} {k : Int} (h : PathC w g M row p Ls k) : ∀ (n N : Nat), n + Ls.length = N → (n = 0 ∨ p.2 ≠ .first) → cstF w (mrow 48 (g 7)) N n Ls = k + if 0 < n ∧ p.2 = .joined then 50 else 0 := by
  have hj : ∀ (p : Nat × Way) (e n : Nat), (n = 0 ∨ p.2 ≠ .first) → ((0 < n ∧ (lineL g M row p e).take (mrow 48 (g 7)).length = mrow 48 (g 7)) ↔ (0 < n ∧ p.2 = .joined)) := fun p e n h => by
    obtain ⟨c, y⟩ := p
    constructor
    · rintro ⟨h1, h2⟩
      refine ⟨h1, ?_⟩
      rcases h with h | h
      · omega
      · cases y with
        | first => exact absurd rfl h
        | on => exact absurd h2 (joined_ne_on g _)
        | joined => rfl
    · rintro ⟨h1, h2⟩
      refine ⟨h1, ?_⟩
      simp only at h2
      subst h2
      exact List.take_left' rfl
  induction h with
  | @last p h =>
    intro n N hN hn
    rw [List.length_singleton] at hN
    rw [cstF, cstF, if_neg (by omega)]
    simp only [hj p _ n hn]
    omega
  | @step p q e Ls k h he hq r ih =>
    intro n N hN hn
    rw [List.length_cons] at hN
    have hne := (path_lt hw hM r).2.2.2
    have hpos : 0 < Ls.length := List.length_pos_iff.mpr hne
    rw [cstF, if_pos (by omega), ih (n + 1) N (by omega) (.inr (fol_ways hq))]
    simp only [hj p _ n hn]
    unfold jcF
    have : (0 < n + 1 ∧ q.2 = Way.joined) ↔ q.2 = .joined := ⟨fun h => h.2, fun h => ⟨by omega, h⟩⟩
    simp only [this]
    omega
theorem path_long (hw : 8 ≤ w) (hM : M.length ≤ 5) {p : Nat × Way} {Ls : List (List Int)} {k : Int} (h : PathC w g M row p Ls k) : longs w Ls = [] := by
  unfold longs
  rw [List.filter_eq_nil_iff]
  intro L hL
  have := (path_lt hw hM h).2.2.1 L hL
  simp
  omega
/-! what the program makes and says -/
theorem brkrow_ok (hw : 8 ≤ w) (hw2 : w ≤ 40) (hM : M.length ≤ 5) (hr : row.length ≤ 900) (hr0 : 0 < row.length) {ms mr : MV} (hs : IsSh C D w g ms) (hm : IsL mr (row.map DV.int)) :
    ∃ A v, r_brkrow B C D [ms, .val (.tup (M.map DV.int)), mr] = .ok (.lst (lnD (v.2.items.map (·.items)))) [.val (shD C D w g), .val (.tup (M.map DV.int)), .val (.lst (row.map DV.int))] ∧ InvA w g M row A (DoneA row 0) ∧ A.lookup (0, .first) = some v := by
  obtain ⟨A, hb, hI⟩ := binit_ok (B := B) (C := C) (D := D) trivial hw hw2 hM hr hs hm
  obtain ⟨v, hv⟩ := Option.isSome_iff_exists.mp (hI.full (0, .first) ⟨Nat.zero_le _, hr0, by simp [wysL]⟩)
  refine ⟨A, v, ?_, hI, hv⟩
  have hd := dget_A A (0, .first)
  rw [hv] at hd
  change dget (ksA A) (esA A) [.inl ((0 : Nat) : Int), .inr "first"] = some (.tup [.int v.1, .tup (v.2.items.map lnDV)]) at hd
  simp only [Int.ofNat_zero] at hd
  have hl : lnD (v.2.items.map (·.items)) = v.2.items.map lnDV := by
    unfold lnD
    rw [List.map_map]
    rfl
  have hz : (v.2.items.map lnDV).length ≤ 10000000 := by have := (hI.cons _ v hv).2.l; simp; omega
  rw [hl]
  simp only [selfB] at hb
  generalize v.2.items.map lnDV = TV at *
  generalize ksA A = KS at *
  generalize esA A = ES at *
  generalize M.map DV.int = TM at *
  generalize row.map DV.int = TR at *
  rcases hs with rfl | rfl <;> rcases hm with rfl | rfl <;> simp [r_brkrow, b_brkrow, hb, hd, hz]
/-- a way is the row, broken into lines -/
theorem isbrk_path (E0 C D : Addr) (hw : 8 ≤ w) (hw2 : w ≤ 40) (hM : M.length ≤ 5) (hr : row.length ≤ 400) {Ls : List (List Int)} {k : Int} (h : PathC w g M row (0, .first) Ls k) {mL : MV} (hmL : IsL mL (lnD Ls)) :
    r_isbrk E0 C D [.val (shD C D w g), .val (.tup (M.map DV.int)), .val (.lst (row.map DV.int)), mL] = .ok (.val (.bl true)) [.val (shD C D w g), .val (.tup (M.map DV.int)), .val (.lst (row.map DV.int)), .val (.lst (lnD Ls))] := by
  have hp := path_lt hw hM h
  have hu := path_unb hw hM h 0 [] (.inl ⟨rfl, rfl⟩)
  have hu : unbF M g 0 Ls [] = .ok row := by rw [hu]; simp [onW]
  have := broken_okV (g := g) E0 C D (w := w) (M := M) (row := row) (by omega) (by omega) (by omega) (mR := .val (.lst (row.map DV.int))) (.inl rfl) (Ls := Ls) (mL := mL) hmL (fun L hL => by have := hp.2.2.1 L hL; omega) (by omega) (fun R hR => by rw [hu] at hR; cases hR; omega)
  rw [hu, path_long hw hM h] at this
  simp only [unbB, decide_true, Bool.and_true] at this
  exact this
end
end Sy
namespace Sy
open PySem PySem.Spec PyProof.Rows L2
/-! ### a number's text, and a text's number -/
/-- the text of a number that is not negative -/
def numS (n : Nat) : Str := ⟨(TL.numL n).toArray⟩
theorem numS_eq (n : Nat) : Str.ofString (toString ((n : Nat) : Int)) = numS n := TL.ext_tl (TL.tl_num n)
def strD : List DV → Option MV
  | [.int i] => if 0 ≤ i ∧ i < 1000 then some (.val (.str (numS i.toNat))) else none
  | _ => none
section
variable {K : PySem.W.Frag}
theorem b_str : BL K (fun xs H Q => ∃ i : Int, xs = [.int i] ∧ i.natAbs.log2 < 1920 ∧ Q (.str (toString i)) H) strD := fun P H xs ds m Q h al r q => by
  unfold strD at h
  split at h
  · rename_i i
    split at h
    · rename_i hi
      cases h
      obtain ⟨v, rfl, rv⟩ := rws1 r
      obtain ⟨n, rfl⟩ : ∃ n : Nat, i = n := ⟨i.toNat, by omega⟩
      refine ⟨_, by rw [rw_int rv], ?_, ?_⟩
      · have := Nat.log2_le_self (n : Int).natAbs
        omega
      · have : ((toString ((n : Nat) : Int) : String) : Str) = numS n := numS_eq n
        rw [this]
        exact new_val q (.str _)
    · cases h
  · cases h
def intS : List DV → Option MV
  | [.str x] => if x.length ≤ 640 then (intText? x).bind it else none
  | _ => none
theorem b_intS : BL K (fun xs H Q => ∃ a n, xs = [.str a] ∧ PySem.intText? a = some n ∧ a.length ≤ 640 ∧ Q (.int n) H) intS := fun P H xs ds m Q h al r q => by
  unfold intS at h
  split at h
  · rename_i x
    split at h
    · rename_i hx
      cases e : intText? x with
      | none => rw [e] at h; cases h
      | some n =>
        rw [e] at h
        cases h
        obtain ⟨v, rfl, rv⟩ := rws1 r
        exact ⟨x, n, by rw [rw_str rv], e, hx, new_int q⟩
    · cases h
  · cases h
end
@[simp] theorem strD_int {i : Int} : strD [.int i] = if 0 ≤ i ∧ i < 1000 then some (.val (.str (numS i.toNat))) else none := rfl
theorem chars_num (n : Nat) : chars (numS n) = (TL.numL n).map fun c => DV.str ⟨#[c]⟩ := by
  unfold chars numS
  simp
theorem intS_dig {c : Nat} (h0 : 48 ≤ c) (h1 : c ≤ 57) : intS [.str ⟨#[c]⟩] = it ((c : Int) - 48) := by
  have e := PySem.intText_digits (x := (⟨#[c]⟩ : Str)) (by intro d hd; simp at hd; omega) (by simp) (by show (1 : Nat) ≤ 4300; decide)
  have e2 : NumText.digitsVal [c] = c - 48 := by simp [NumText.digitsVal]
  show (if (⟨#[c]⟩ : Str).length ≤ 640 then (intText? ⟨#[c]⟩).bind it else none) = _
  rw [if_pos (by show (1 : Nat) ≤ 640; decide), e]
  show it _ = _
  congr 1
  show ((NumText.digitsVal [c] : Nat) : Int) = _
  rw [e2]
  omega
/-- the digits of a number, each one more -/
def dgL (n : Nat) : List Int := (TL.numL n).map fun c : Nat => (c : Int) - 48 + 1
theorem dgL_len {n : Nat} (h : n < 100) : (dgL n).length ≤ 2 := by
  unfold dgL
  rw [List.length_map]
  exact TL.numL_len (k := 2) (by decide) (by omega)
end Sy
namespace Sy
open PySem PySem.Spec PyProof.Rows L2
/-! ### sorted(xs), xs data -/
def rSortDt (K : PySem.W.Frag) : List V → Hp → VK → Prop := fun vs H Q => ∃ (a : Addr) (ws : List V) (ds : List PyData), vs = [V.ref a] ∧ SqL K H a ws ∧ DpAll K H ws ds ∧ PySem.W.AllAlike ds ∧ PySem.W.Sortable ds ∧ PyData.depthAll ds ≤ 60 ∧
  ∀ p, H p = none → Q (.ref p) (upd H p (.lst (((ws.zip ds).mergeSort (PySem.W.dataLe false (·.2))).map (·.1))))
theorem dpall_len {K : PySem.W.Frag} {H : Hp} : ∀ {vs : List V} {ds : List PyData}, DpAll K H vs ds → vs.length = ds.length
  | [], _, h => by cases h; rfl
  | v :: vs, _, h => by
    cases h with
    | cons q r => rw [List.length_cons, List.length_cons, dpall_len r]
theorem depth_mem : ∀ {ds : List PyData} {d : PyData}, d ∈ ds → d.depth ≤ PyData.depthAll ds
  | [], _, h => by simp at h
  | e :: ds, d, h => by
    rw [PyData.depthAll]
    rcases List.mem_cons.mp h with rfl | h
    · omega
    · have := depth_mem h
      omega
theorem rel_zip : ∀ {ws : List V} {us : List Value} {ds : List PyData}, Vals ws us → ws.length = ds.length → PySem.W.EachIs (fun u (z : V × PyData) => RelV z.1 u) us (ws.zip ds)
  | [], _, _, h, e => by cases h; exact .nil
  | w :: ws, _, [], h, e => by simp at e
  | w :: ws, _, d :: ds, h, e => by
    cases h with
    | cons q r => exact .cons q (rel_zip r (by simpa using e))
theorem rd_zip {R : Value → PyData → Prop} : ∀ {us : List Value} {ws : List V} {ds : List PyData}, us.length = ws.length → PySem.W.EachIs R us ds → PySem.W.EachIs (fun u (z : V × PyData) => R u z.2) us (ws.zip ds)
  | [], ws, _, e, h => by
    cases h
    cases ws with
    | nil => exact .nil
    | cons a b => simp at e
  | u :: us, [], _, e, h => by simp at e
  | u :: us, w :: ws, _, e, h => by
    cases h with
    | cons q r => exact .cons q (rd_zip (by simpa using e) r)
theorem vals_each : ∀ {us : List Value} {zs : List (V × PyData)}, PySem.W.EachIs (fun u (z : V × PyData) => RelV z.1 u) us zs → Vals (zs.map (·.1)) us
  | _, _, .nil => .nil
  | _, _, .cons h t => .cons h (vals_each t)
theorem cr_sortDt {X : Cx} (hu : X.A.units + 64 < cLine) : CallR X (.builtin "sorted") (rSortDt X.K) := by
  intro pins s σ H vs us Q I r h
  obtain ⟨a, ws, ds, rfl, hs, hd, ha, hk, h60, q⟩ := h
  obtain ⟨its, rv, hl, hz⟩ := I.list hs
  rw [Vals.ref1 r]
  have hlen := dpall_len hd
  obtain ⟨bs, hr⟩ := Dp.readsAll I _ _ _ hd rv
  have hr' : ReadsAll s.heap its (ds.map id) bs := by rw [List.map_id]; exact hr
  have e1 := rel_zip rv hlen
  have e2 := rd_zip (ws := ws) rv.length.symm (PySem.W.readsAll_each id hr')
  have hm : (ws.zip ds).map (·.2) = ds := List.map_snd_zip (by omega)
  refine PySem.W.sorted_data (R := fun u (z : V × PyData) => RelV z.1 u) (enc := fun z : V × PyData => z.2) hl.isList e1 e2 (by rw [hm]; exact ha) (by rw [hm]; exact hk) (by rw [List.length_zip]; omega) (fun b hb => ?_) fun out ho eo => ?_
  · have := depth_mem (List.of_mem_zip (a := b.1) (b := b.2) hb).2
    omega
  · obtain ⟨c, hc⟩ := sortedAll_at s.heap its out.toArray
    refine ⟨.ref _, upd H _ (.lst _), I.laid (t' := s.toks) (fun b o => sortedAll_old) (Nat.le_succ _) ⟨?_, out, c, vals_each eo, hc⟩, rfl, q _ (I.hok.fresh (Nat.le_succ _))⟩
    rw [List.length_map, List.length_mergeSort, List.length_zip]
    omega
open Classical in
noncomputable def sortDt : List DV → Option MV
  | [.lst ds] => if plains ds = true ∧ PySem.W.AllAlike (toPs ds) ∧ PySem.W.Sortable (toPs ds) ∧ PyData.depthAll (toPs ds) ≤ 60 then some (.lst (((toPs ds).mergeSort (PySem.W.dataLe false id)).map ofP)) else none
  | _ => none
theorem rds_mem {K : PySem.W.Frag} {G : Hp} {α : Type} {f : α → DV} {g : α → V} : ∀ (l : List α), (∀ z ∈ l, RD K G (f z) (g z)) → RDs K G (l.map f) (l.map g)
  | [], _ => .nil
  | z :: l, h => .cons (h z (by simp)) (rds_mem l fun y hy => h y (by simp [hy]))
theorem rds_zip {K : PySem.W.Frag} {G : Hp} : ∀ {ds : List DV} {vs : List V}, plains ds = true → RDs K G ds vs → ∀ z ∈ vs.zip (toPs ds), RD K G (ofP z.2) z.1
  | [], _, _, _, z, h => by simp [toPs] at h
  | d :: ds, _, hp, r, z, h => by
    cases r with
    | cons q r =>
      rw [plains, Bool.and_eq_true] at hp
      rw [toPs, List.zip_cons_cons] at h
      rcases List.mem_cons.mp h with rfl | h
      · rw [ofP_toP _ hp.1]
        exact q
      · exact rds_zip hp.2 r z h
theorem b_sortDt {K : PySem.W.Frag} : BL K (rSortDt K) sortDt := fun P H xs ds m Q h al r q => by
  unfold sortDt at h
  split at h
  · rename_i ds
    by_cases hc : plains ds = true ∧ PySem.W.AllAlike (toPs ds) ∧ PySem.W.Sortable (toPs ds) ∧ PyData.depthAll (toPs ds) ≤ 60
    · rw [if_pos hc] at h
      cases h
      obtain ⟨hp, ha, hk, h60⟩ := hc
      obtain ⟨v, rfl, rv⟩ := rws1 r
      obtain ⟨p, vs, rfl, h1, r1⟩ := rw_lst hid_same rv
      have hd := rds_dp hid_same _ _ (plains_isDs _ hp) r1
      have hlen := dpall_len hd
      refine ⟨p, vs, toPs ds, rfl, SqL.of h1, hd, ha, hk, h60, ?_⟩
      have hm : ((vs.zip (toPs ds)).mergeSort (PySem.W.dataLe false (·.2))).map (·.2) = (toPs ds).mergeSort (PySem.W.dataLe false id) := by
        rw [PySem.W.sort_maps (r := PySem.W.dataLe false fun z : V × PyData => z.2) (s := PySem.W.dataLe false id) (fun z : V × PyData => z.2) (fun a _ b _ => rfl), List.map_snd_zip (by omega)]
      have hz := rds_zip hp r1
      have hr : RDs K (hid H P) (((vs.zip (toPs ds)).mergeSort (PySem.W.dataLe false (·.2))).map (fun z => ofP z.2)) (((vs.zip (toPs ds)).mergeSort (PySem.W.dataLe false (·.2))).map (·.1)) :=
        rds_mem _ fun z hzm => hz z (List.mem_mergeSort.mp hzm)
      rw [show (fun z : V × PyData => ofP z.2) = ofP ∘ (·.2) from rfl, ← List.map_map, hm] at hr
      exact new_lst al hr q
    · rw [if_neg hc] at h; cases h
  · cases h
/-! of data with a Lean type -/
section
variable {α : Type} [DecidableEq α] [PySem.W.DatumOrd α]
theorem plains_f (f : α → DV) (hf : ∀ a, plain (f a) = true) : ∀ l : List α, plains (l.map f) = true
  | [] => rfl
  | a :: l => by rw [List.map_cons, plains, hf a, plains_f f hf l]; rfl
theorem depth_f : ∀ l : List α, PyData.depthAll (l.map PySem.W.Datum.toD) ≤ PySem.W.Datum.depth α
  | [] => Nat.zero_le _
  | a :: l => by
    rw [List.map_cons, PyData.depthAll]
    have := PySem.W.Datum.depth_le a
    have := depth_f l
    omega
open Classical in
theorem sortDt_of (f : α → DV) (hf : ∀ a, plain (f a) = true ∧ toP (f a) = PySem.W.Datum.toD a) (l : List α) (hd : PySem.W.Datum.depth α ≤ 60) (hk : ∀ a : α, ∀ xs, PySem.W.Datum.toD a ≠ .tuple xs) :
    sortDt [.lst (l.map f)] = some (.lst ((l.mergeSort fun a b => !PySem.W.DatumOrd.lt b a).map f)) := by
  have hp := plains_f f (fun a => (hf a).1) l
  have ht : toPs (l.map f) = l.map PySem.W.Datum.toD := by
    rw [toPs_map, List.map_map]
    exact List.map_congr_left fun a _ => (hf a).2
  show (if plains (l.map f) = true ∧ PySem.W.AllAlike (toPs (l.map f)) ∧ PySem.W.Sortable (toPs (l.map f)) ∧ PyData.depthAll (toPs (l.map f)) ≤ 60 then some (MV.lst (((toPs (l.map f)).mergeSort (PySem.W.dataLe false id)).map ofP)) else none) = _
  rw [ht, if_pos ⟨hp, PySem.W.AllAlike.of (enc := PySem.W.Datum.toD) fun a b => PySem.W.DatumOrd.alike a b, PySem.W.Sortable.others fun a => ⟨PySem.W.DatumOrd.notNone a, hk a⟩, Nat.le_trans (depth_f l) hd⟩]
  congr 2
  rw [← PySem.W.sort_maps (r := fun a b : α => !PySem.W.DatumOrd.lt b a) PySem.W.Datum.toD (fun a _ b _ => by
    show (!PySem.W.DatumOrd.lt b a) = !PySem.W.dataLt (PySem.W.Datum.toD b) (PySem.W.Datum.toD a)
    rw [PySem.W.DatumOrd.lt_eq]), List.map_map]
  exact List.map_congr_left fun a _ => by
    show ofP (PySem.W.Datum.toD a) = f a
    rw [← (hf a).2, ofP_toP _ (hf a).1]
theorem totalLe : PySem.W.TotalLe fun a b : α => !PySem.W.DatumOrd.lt b a := by
  have h := PySem.W.sortLe_total (listOrd itemOrd) false fun b : α => PySem.W.keyToks (PySem.W.Datum.toD b)
  have e : (fun a b : α => !PySem.W.DatumOrd.lt b a) = PySem.W.sortLe (listOrd itemOrd) false fun b : α => PySem.W.keyToks (PySem.W.Datum.toD b) := by
    funext a b
    show (!PySem.W.DatumOrd.lt b a) = !PySem.W.dataLt (PySem.W.Datum.toD b) (PySem.W.Datum.toD a)
    rw [PySem.W.DatumOrd.lt_eq]
  rw [e]
  exact h
/-- the first of what is sorted is the least -/
theorem sort_head {l : List α} {m : α} {t : List α} (h : (l.mergeSort fun a b => !PySem.W.DatumOrd.lt b a) = m :: t) : m ∈ l ∧ ∀ y ∈ l, PySem.W.DatumOrd.lt y m = false := by
  have hm : ∀ y, y ∈ m :: t ↔ y ∈ l := fun y => by rw [← h]; exact List.mem_mergeSort
  refine ⟨(hm m).mp (by simp), fun y hy => ?_⟩
  have hp := PySem.W.sort_pairwise (totalLe (α := α)) l
  rw [h, List.pairwise_cons] at hp
  rcases List.mem_cons.mp ((hm y).mpr hy) with rfl | hy
  · have := totalLe.refl y
    simpa using this
  · have := hp.1 y hy
    simpa using this
theorem minOf_least : ∀ (xs : List α) (x y : α), y ∈ x :: xs → PySem.W.DatumOrd.lt y (PySem.W.minOf x xs) = false
  | [], x, y, h => by
    simp at h
    subst h
    have := totalLe.refl y
    show PySem.W.DatumOrd.lt y y = false
    simpa using this
  | z :: xs, x, y, h => by
    have e : PySem.W.minOf x (z :: xs) = PySem.W.minOf (if PySem.W.DatumOrd.lt z x = true then z else x) xs := rfl
    rw [e]
    have h0 := fun u hu => minOf_least xs (if PySem.W.DatumOrd.lt z x = true then z else x) u hu
    have h1 := h0 _ (List.mem_cons_self ..)
    have tr : ∀ a b c : α, PySem.W.DatumOrd.lt b a = false → PySem.W.DatumOrd.lt c b = false → PySem.W.DatumOrd.lt c a = false := fun a b c p q => by
      have := totalLe.trans a b c (by simp [p]) (by simp [q])
      simpa using this
    have to : ∀ a b : α, PySem.W.DatumOrd.lt b a = true → PySem.W.DatumOrd.lt a b = false := fun a b p => by
      rcases totalLe.total a b with q | q
      · rw [p] at q; cases q
      · simpa using q
    rcases List.mem_cons.mp h with rfl | h
    · refine tr _ _ _ h1 ?_
      split
      · rename_i hz; exact to _ _ hz
      · have := totalLe.refl y
        simpa using this
    · rcases List.mem_cons.mp h with rfl | h
      · refine tr _ _ _ h1 ?_
        split
        · have := totalLe.refl y
          simpa using this
        · rename_i hz; simpa using hz
      · exact h0 y (by simp [h])
end
/-! a list of two things -/
structure LP (α β : Type) where
  a : α
  b : β
  deriving DecidableEq
section
variable {α β : Type} [DecidableEq α] [DecidableEq β] [PySem.W.DatumOrd α] [PySem.W.DatumOrd β]
instance lpD : PySem.W.Datum (LP α β) where
  toD p := .list [PySem.W.Datum.toD p.a, PySem.W.Datum.toD p.b]
  plain p := by
    have h := PySem.W.Datum.plain (p.a, p.b)
    have e : (PyData.tuple [PySem.W.Datum.toD p.a, PySem.W.Datum.toD p.b]).plain = true := h
    rw [PyData.plain] at e
    rw [PyData.plain]
    exact e
  eqv p q := by
    have e : PyData.eqv (.tuple [PySem.W.Datum.toD p.a, PySem.W.Datum.toD p.b]) (.tuple [PySem.W.Datum.toD q.a, PySem.W.Datum.toD q.b]) = decide ((p.a, p.b) = (q.a, q.b)) := PySem.W.Datum.eqv (p.a, p.b) (q.a, q.b)
    rw [PyData.eqv] at e
    rw [PyData.eqv, e]
    cases p
    cases q
    simp
  depth := max (PySem.W.Datum.depth α) (PySem.W.Datum.depth β) + 1
  depth_le p := by
    have e : (PyData.tuple [PySem.W.Datum.toD p.a, PySem.W.Datum.toD p.b]).depth ≤ max (PySem.W.Datum.depth α) (PySem.W.Datum.depth β) + 1 := PySem.W.Datum.depth_le (p.a, p.b)
    rw [PyData.depth] at e
    rw [PyData.depth]
    exact e
instance lpO : PySem.W.DatumOrd (LP α β) where
  lt p q := PySem.W.DatumOrd.lt (p.a, p.b) (q.a, q.b)
  alike p q := by
    have e : PySem.W.alike (.tuple [PySem.W.Datum.toD p.a, PySem.W.Datum.toD p.b]) (.tuple [PySem.W.Datum.toD q.a, PySem.W.Datum.toD q.b]) = true := PySem.W.DatumOrd.alike (p.a, p.b) (q.a, q.b)
    rw [PySem.W.alike] at e
    show PySem.W.alike (.list [_, _]) (.list [_, _]) = true
    rw [PySem.W.alike]
    exact e
  notNone p := fun e => by cases e
  lt_eq p q := (PySem.W.dataLt_list _ _).trans ((PySem.W.dataLt_tuple _ _).symm.trans (PySem.W.DatumOrd.lt_eq (p.a, p.b) (q.a, q.b)))
end
/-! the order tells any two apart -/
theorem tri_int (x y : Int) (h1 : PySem.W.DatumOrd.lt x y = false) (h2 : PySem.W.DatumOrd.lt y x = false) : x = y := by
  have e1 : decide (x < y) = false := h1
  have e2 : decide (y < x) = false := h2
  rw [decide_eq_false_iff_not] at e1 e2
  omega
theorem tri_list {α : Type} [DecidableEq α] [PySem.W.DatumOrd α] (tri : ∀ x y : α, PySem.W.DatumOrd.lt x y = false → PySem.W.DatumOrd.lt y x = false → x = y) : ∀ xs ys : List α, PySem.W.listLt xs ys = false → PySem.W.listLt ys xs = false → xs = ys
  | [], [], _, _ => rfl
  | [], _ :: _, h, _ => by simp [PySem.W.listLt] at h
  | _ :: _, [], _, h => by simp [PySem.W.listLt] at h
  | x :: xs, y :: ys, h1, h2 => by
    unfold PySem.W.listLt at h1 h2
    by_cases e : x = y
    · subst e
      rw [if_pos rfl] at h1 h2
      rw [tri_list tri xs ys h1 h2]
    · rw [if_neg e] at h1
      rw [if_neg fun z => e z.symm] at h2
      exact absurd (tri x y h1 h2) e
theorem tri_tup {α : Type} [DecidableEq α] [PySem.W.DatumOrd α] (tri : ∀ x y : α, PySem.W.DatumOrd.lt x y = false → PySem.W.DatumOrd.lt y x = false → x = y) (s t : PySem.W.Tup α) (h1 : PySem.W.DatumOrd.lt s t = false) (h2 : PySem.W.DatumOrd.lt t s = false) : s = t := by
  obtain ⟨xs⟩ := s
  obtain ⟨ys⟩ := t
  rw [tri_list tri xs ys h1 h2]
theorem tri_BV (x y : BV) (h1 : PySem.W.DatumOrd.lt x y = false) (h2 : PySem.W.DatumOrd.lt y x = false) : x = y := by
  have e1 : (if x.1 = y.1 then PySem.W.DatumOrd.lt x.2 y.2 else PySem.W.DatumOrd.lt x.1 y.1) = false := h1
  have e2 : (if y.1 = x.1 then PySem.W.DatumOrd.lt y.2 x.2 else PySem.W.DatumOrd.lt y.1 x.1) = false := h2
  by_cases e : x.1 = y.1
  · rw [if_pos e] at e1
    rw [if_pos e.symm] at e2
    exact Prod.ext e (tri_tup (tri_tup tri_int) _ _ e1 e2)
  · rw [if_neg e] at e1
    rw [if_neg fun z => e z.symm] at e2
    exact absurd (tri_int _ _ e1 e2) e
/-- the law's own entry: a list of the cost and the list of the lines -/
def entV (x : LP Int (List (PySem.W.Tup Int))) : DV := .lst [.int x.a, .lst (x.b.map lnDV)]
def entL (v : BV) : LP Int (List (PySem.W.Tup Int)) := ⟨v.1, v.2.items⟩
def entD (v : BV) : DV := .lst [.int v.1, .lst (v.2.items.map lnDV)]
theorem ent_data (x : LP Int (List (PySem.W.Tup Int))) : plain (entV x) = true ∧ toP (entV x) = PySem.W.Datum.toD x := by
  obtain ⟨c, l⟩ := x
  constructor
  · rw [entV, plain, plains, plains, plains, plain, plain, plains_ln]
    all_goals rfl
  · rw [entV, toP, toPs, toPs, toPs, toP, toP, toPs_map, List.map_map]
    show PyData.list [_, PyData.list _] = PyData.list [_, PyData.list _]
    congr 3
    congr 1
    refine List.map_congr_left fun a _ => ?_
    show toP (.tup _) = PyData.tuple _
    rw [toP, toPs_map, List.map_map]
    rfl
theorem sorted_first {l : List BV} (h : l ≠ []) : ∃ ds, sortDt [.lst (l.map entD)] = some (.lst (entD (minB l) :: ds)) := by
  have hs := sortDt_of entV ent_data (l.map entL) (by decide) (fun a xs e => by cases e)
  have hm : (l.map entL).map entV = l.map entD := by rw [List.map_map]; rfl
  rw [hm] at hs
  cases hS : (l.map entL).mergeSort fun a b => !PySem.W.DatumOrd.lt b a with
  | nil =>
    have := congrArg List.length hS
    rw [List.length_mergeSort, List.length_map] at this
    exact absurd (List.length_eq_zero_iff.mp this) h
  | cons m t =>
    rw [hS] at hs
    obtain ⟨h1, h2⟩ := sort_head hS
    obtain ⟨u, hu, rfl⟩ := List.mem_map.mp h1
    have e : minB l = u := by
      refine tri_BV _ _ (h2 (entL (minB l)) (List.mem_map.mpr ⟨_, minB_mem h, rfl⟩)) ?_
      cases l with
      | nil => exact absurd rfl h
      | cons x xs => exact minOf_least xs x u hu
    exact ⟨t.map entV, by rw [hs, e]; rfl⟩
end Sy
namespace Sy
open PySem PySem.Spec PyProof.Rows L2
/-! ### x is not True -/
section
variable {X : Cx} {K : PySem.W.Frag}
def rNotB : R2 := fun x y H Q => ∃ c d, x = .bl c ∧ y = .bl d ∧ Q (.bl (c != d)) H
theorem op_isntB : OpR X (compareOp .IsNot) rNotB := by
  intro pins s σ H x y v u Q I rx ry h
  obtain ⟨c, d, rfl, rfl, q⟩ := h
  cases rx
  cases ry
  exact isnot_bool (fin_bl I q rfl)
def isntB : DV → DV → Option MV
  | .bl c, .bl d => bl (c != d)
  | _, _ => none
theorem b_isntB : B2 K rNotB isntB := fun P H x y d e m Q h al rx ry q => by
  unfold isntB at h
  split at h
  · cases h
    rw [rw_bl rx, rw_bl ry]
    exact ⟨_, _, rfl, rfl, new_bl q⟩
  · cases h
/-! ### a sign in a text -/
def sign1 : List Nat → Option Nat
  | [c] => some c
  | _ => none
theorem sign1_of {x : Str} {c : Nat} (h : sign1 x.cps.toList = some c) : x = ⟨#[c]⟩ := by
  obtain ⟨⟨l⟩⟩ := x
  cases l with
  | nil => cases h
  | cons a l =>
    cases l with
    | nil => cases h; rfl
    | cons b l => cases h
def inS : DV → DV → Option MV
  | .str x, .str z => (sign1 x.cps.toList).bind fun c => bl (decide (c ∈ z.cps.toList))
  | _, _ => none
def rInS : R2 := fun x y H Q => ∃ (c : Nat) (z : Str), x = .str ⟨#[c]⟩ ∧ y = .str z ∧ Q (.bl (decide (c ∈ z.cps.toList))) H
theorem b_inS : B2 K rInS inS := fun P H x y d e m Q h al rx ry q => by
  unfold inS at h
  split at h
  · rename_i a z
    cases e : sign1 a.cps.toList with
    | none => rw [e] at h; cases h
    | some c =>
      rw [e] at h
      cases h
      rw [rw_str rx, rw_str ry, sign1_of e]
      exact ⟨c, z, rfl, rfl, new_bl q⟩
  · cases h
def ninS : DV → DV → Option MV
  | .str x, .str z => (sign1 x.cps.toList).bind fun c => bl (!decide (c ∈ z.cps.toList))
  | _, _ => none
def rNinS : R2 := fun x y H Q => ∃ (c : Nat) (z : Str), x = .str ⟨#[c]⟩ ∧ y = .str z ∧ Q (.bl (!decide (c ∈ z.cps.toList))) H
theorem b_ninS : B2 K rNinS ninS := fun P H x y d e m Q h al rx ry q => by
  unfold ninS at h
  split at h
  · rename_i a z
    cases e : sign1 a.cps.toList with
    | none => rw [e] at h; cases h
    | some c =>
      rw [e] at h
      cases h
      rw [rw_str rx, rw_str ry, sign1_of e]
      exact ⟨c, z, rfl, rfl, new_bl q⟩
  · cases h
/-! ### 1 << n -/
def shlD : DV → DV → Option MV
  | .int a, .int b => if 0 ≤ b ∧ b ≤ 100 ∧ a.natAbs < 1000 then it (a * 2 ^ b.toNat) else none
  | _, _ => none
theorem b_shl : B2 K (rI CPow fun i j => .int (i * 2 ^ j.toNat)) shlD := fun P H x y d e m Q h al rx ry q => by
  unfold shlD at h
  split at h
  · split at h
    · rename_i hc
      cases h
      rw [rw_int rx, rw_int ry]
      exact ⟨_, _, rfl, rfl, ⟨hc.1, by omega, Nat.lt_of_lt_of_le hc.2.2 (by decide)⟩, new_int q⟩
    · cases h
  · cases h
/-! ### a sign, some times -/
def rMulS : R2 := fun x y H Q => ∃ (c k : Nat), x = .str ⟨#[c]⟩ ∧ y = .int (k : Int) ∧ 2 ≤ k ∧ k ≤ 100 ∧ Q (.str ⟨(List.replicate k c).toArray⟩) H
theorem rep_fold (c : Nat) : ∀ (k : Nat) (a : Array Nat), (List.replicate k #[c]).foldl (· ++ ·) a = a ++ (List.replicate k c).toArray
  | 0, a => by simp
  | k + 1, a => by
    rw [List.replicate_succ, List.foldl_cons, rep_fold c k, List.replicate_succ]
    apply Array.ext'
    simp
theorem op_mulS : OpR X (binaryOp .Mult) rMulS := by
  intro pins s σ H x y v u Q I rx ry h
  obtain ⟨c, k, rfl, rfl, h2, hk, q⟩ := h
  obtain ⟨t, rfl⟩ := rx
  obtain ⟨t', rfl⟩ := ry
  have hl : (⟨#[c]⟩ : Str).length = 1 := rfl
  have hb : (((k : Int) == 1) || ((⟨#[c]⟩ : Str).length == 0)) = false := by
    rw [hl]
    have : ((k : Int) == 1) = false := by simp; omega
    rw [this]; rfl
  have tl : Builtin.Str.tooLong ((⟨#[c]⟩ : Str).length * ((k : Int)).toNat) = false := by
    rw [hl]
    have : (1 * ((k : Int)).toNat) ≤ 100 := by omega
    exact decide_eq_false (by rw [sizeLine_eq]; omega)
  refine PySem.P.mul_str ?_ (fun _ _ => ?_) (fun _ _ => tl) ?_
  · have a1 : ¬ (k : Int) < -(2 ^ 63 : Int) := by omega
    have a2 : ¬ (k : Int) ≥ 2 ^ 63 := by omega
    rw [decide_eq_false a1, decide_eq_false a2]; rfl
  · rw [hl]
    have : 1 ≤ (2 ^ 63 - 1 : Int) / k := by
      apply Int.le_ediv_of_mul_le <;> omega
    omega
  · rw [if_neg (by omega), if_neg (by rw [hb]; decide)]
    have e : (⟨(List.replicate ((k : Int)).toNat (⟨#[c]⟩ : Str).cps).foldl (· ++ ·) #[]⟩ : Str) = ⟨(List.replicate k c).toArray⟩ := by
      congr 1
      show (List.replicate k #[c]).foldl (· ++ ·) #[] = _
      rw [rep_fold]
      simp
    rw [e]
    refine ⟨?_, ?_⟩
    · show (List.replicate k c).toArray.size ≤ _
      simp
      rw [sizeLine_eq]
      omega
    · exact ⟨.str _, H, I.tok _, ⟨_, rfl⟩, q⟩
def mulS : DV → DV → Option MV
  | .str x, .int k => (sign1 x.cps.toList).bind fun c => if 2 ≤ k ∧ k ≤ 100 then some (.val (.str ⟨(List.replicate k.toNat c).toArray⟩)) else none
  | _, _ => none
theorem b_mulS : B2 K rMulS mulS := fun P H x y d e m Q h al rx ry q => by
  unfold mulS at h
  split at h
  · rename_i a k
    cases e : sign1 a.cps.toList with
    | none => rw [e] at h; cases h
    | some c =>
      rw [e] at h
      simp only [Option.bind_some] at h
      split at h
      · rename_i hk
        cases h
        rw [rw_str rx, rw_int ry, sign1_of e]
        exact ⟨c, k.toNat, rfl, by congr 1; omega, by omega, by omega, new_str q⟩
      · cases h
  · cases h
end
end Sy
namespace Sy
open PySem PySem.Spec PyProof.Rows L2
/-! ### "".join(xs) -/
def strsOf : List DV → Option (List Str)
  | [] => some []
  | .str x :: ds => (strsOf ds).map (x :: ·)
  | _ :: _ => none
theorem strsOf_map : ∀ xs : List Str, strsOf (xs.map DV.str) = some xs
  | [] => rfl
  | x :: xs => by rw [List.map_cons, strsOf, strsOf_map xs]; rfl
theorem strsOf_rds {K : PySem.W.Frag} {G : Hp} : ∀ {ds : List DV} {vs : List V} {xs : List Str}, strsOf ds = some xs → RDs K G ds vs → vs = xs.map V.str
  | [], _, _, e, r => by cases e; cases r; rfl
  | d :: ds, _, xs, e, r => by
    cases r with
    | cons q r =>
      cases d with
      | str x =>
        rw [strsOf] at e
        cases e2 : strsOf ds with
        | none => rw [e2] at e; cases e
        | some ys =>
          rw [e2] at e
          cases e
          cases q
          rw [strsOf_rds e2 r]
          rfl
      | _ => cases e
def joinD (a : Str) : DV → Option MV
  | .lst ds => (strsOf ds).bind fun ys => if (ys.map (·.length)).sum + ys.length * a.length ≤ 16777216 then some (.val (.str (Txt.join a ys))) else none
  | _ => none
def rJoin (K : PySem.W.Frag) (a : Str) : V → Hp → VK → Prop := fun y H Q => ∃ p, ∃ ys : List Str, y = .ref p ∧ SqL K H p (ys.map V.str) ∧ (ys.map (·.length)).sum + ys.length * a.length ≤ 16777216 ∧ Q (.str (Txt.join a ys)) H
theorem b_join {K : PySem.W.Frag} (a : Str) : B1 K (rJoin K a) (joinD a) := fun P H x d m Q h al rx q => by
  unfold joinD at h
  split at h
  · rename_i ds
    cases e : strsOf ds with
    | none => rw [e] at h; cases h
    | some ys =>
      rw [e] at h
      simp only [Option.bind_some] at h
      split at h
      · rename_i hc
        cases h
        obtain ⟨p, vs, rfl, h1, r1⟩ := rw_lst hid_same rx
        have hv := strsOf_rds e r1
        subst hv
        exact ⟨p, ys, rfl, SqL.of h1, hc, new_str q⟩
      · cases h
  · cases h
theorem se_join {X : Cx} {a : Str} {j : Nat} {p1 apos pos : Pos} {e : Expr} {me : EM} (he : SE X e me) (hs : starEach [e] X.env = [(false, eval e X.env)] := by rfl) (hbase : attributeBase (.Constant (.str a) j p1) "join" X.env (eval (.Constant (.str a) j p1) X.env) = eval (.Constant (.str a) j p1) X.env := by rfl) (hline : (apos.endLine == pos.line) = true := by rfl) :
    SE X (.Call (.Attribute (.Constant (.str a) j p1) "join" apos) [e] [] pos) (E.un (joinD a) me) :=
  (pe_join pe_str he hs hbase hline).imp fun σ H Q q => by
    have q' := un_imp (b_join a) q
    refine ⟨⟨a, rfl⟩, ?_⟩
    exact tE_mono q' fun y H2 ⟨p, ys, h1, h2, h3, h4⟩ => ⟨a, p, ys, rfl, by rw [h1], .inl h2, h3, h4⟩
/-! ### a new instance, with keywords -/
section
variable {X : Cx} {CX : CXT} {k n m N : Nat} {f C : Addr} {fd : FuncData} {ps ks : List Str} {g : FM} {EE : XK} {x : Str} {p pos kpos : Pos} {e : Expr} {es : List Expr} {kws : List Keyword} {ms mr : AM} {ma : EM} {nm : Option Str}
/-- so many arguments -/
def LenA (ms : AM) (n : Nat) : Prop := ∀ sl os sl', ms sl = .ok os sl' → os.length = n
theorem lena_nil : LenA A.nil 0 := fun sl os sl' e => by cases e; rfl
theorem lena_cons (h : LenA mr n) : LenA (A.cons ma mr) (n + 1) := fun sl os sl' e => by
  obtain ⟨o1, s1, e1, e2⟩ := bind_ok e
  obtain ⟨os2, s2, e2, e3⟩ := bind_ok e2
  cases e3
  rw [List.length_cons, h _ _ _ e2]
theorem sk_nil : PK X [] (tAs X.K A.nil) := ⟨fun pos pins s σ H Q I h => pk_nil.run pos pins s σ H Q I (by
  obtain ⟨O, W, sl, os, sl', x, e, q⟩ := tAs_of h
  cases e
  exact q W noF [] H ⟨fun _ _ h _ => h, fun i a h => .inl ⟨i, h⟩, fun a ⟨j, h⟩ => by simp [noF] at h⟩
    (x.less fun a h => h.elim id fun ⟨j, h⟩ => by simp [noF] at h) ⟨rfl, fun j o h => by simp at h, fun _ _ => rfl, fun i j a h => by simp [noF] at h⟩ fun j a h => by simp [noF] at h)⟩
theorem sk_cons (ha : SE X e ma) (hr : PK X kws (tAs X.K mr)) : PK X (⟨nm, e, kpos⟩ :: kws) (tAs X.K (A.cons ma mr)) :=
  ⟨fun pos pins s σ H Q I h => (pk_cons ha hr).run pos pins s σ H Q I (cons_imp h)⟩
/-- the arguments by place, then those by keyword -/
structure SAK (X : Cx) (es : List Expr) (kws : List Keyword) (m : Nat) (ms : AM) : Prop where
  ex : ∃ t tk : TA, PA X es t ∧ PK X kws tk ∧ ∀ σ H (R : List V → List V → Hp → Prop), tAs X.K ms σ H (fun all H2 => ∀ vs zs, all = vs ++ zs → vs.length = es.length → zs.length = m → R vs zs H2) → t σ H fun vs H1 => tk σ H1 fun zs H2 => R vs zs H2
theorem tAs_mono {K : PySem.W.Frag} {m : AM} {σ : L2.St} {H : Hp} {Q Q' : List V → Hp → Prop} (h : tAs K m σ H Q) (hm : ∀ vs H2, Q vs H2 → Q' vs H2) : tAs K m σ H Q' := by
  obtain ⟨O, W, sl, os, sl', x, e, q⟩ := tAs_of h
  exact tAs_mk x e fun W' F vs H' t x1 r n => hm _ _ (q W' F vs H' t x1 r n)
theorem sak_nil (hk : PK X kws (tAs X.K ms)) (hl : LenA ms m) : SAK X [] kws m ms := ⟨tNil, _, pa_nil, hk, fun σ H R q => by
  show tAs X.K ms σ H fun zs H2 => R [] zs H2
  obtain ⟨O, W, sl, os, sl', x, e, q⟩ := tAs_of q
  refine tAs_mk x e fun W' F vs H' t x1 r n => ?_
  exact q W' F vs H' t x1 r n [] vs rfl rfl (by rw [← r.len]; exact hl _ _ _ e)⟩
theorem sak_cons (ha : SE X e ma) (hr : SAK X es kws m mr) (hs : starEach (e :: es) X.env = (false, eval e X.env) :: starEach es X.env := by rfl) : SAK X (e :: es) kws m (A.cons ma mr) := by
  obtain ⟨t, tk, h1, h2, h3⟩ := hr.ex
  refine ⟨_, tk, pa_cons ha h1 hs, h2, fun σ H R q => ?_⟩
  refine tE_mono (cons_imp q) fun y H1 q1 => ?_
  refine h3 σ H1 (fun vs zs H2 => R (y :: vs) zs H2) (tAs_mono q1 fun all H2 q2 vs zs e1 e2 e3 => ?_)
  exact q2 (y :: vs) zs (by rw [e1]; rfl) (by rw [List.length_cons, List.length_cons, e2]) e3
theorem se_makeK (M : Mk X.K C f) (F : FnOk X.prog X.w X.K X.mg X.base CX k f fd ps (spF X.K N g)) (hr : Room (k + 1) X.A) (hm : X.mg x = some (.ref C)) (hb : KBn X.K fd ps ((e :: es).length + 1) ks (fun us ws => us ++ ws) (fun vs zs => vs ++ zs)) (hx : Passes CX X EE) (ha : SAK X (e :: es) kws ks.length ms)
    (hg : Gl X x := by rfl) (h0 : (x == ("__debug__" : Str)) = false := by decide) (hall : (backToKw pos (keywordEach kws X.env)).all (·.1.isSome) = true := by rfl) (hks : (backToKw pos (keywordEach kws X.env)).filterMap (·.1) = ks := by rfl)
    (he : starEach (e :: es) X.env = (false, eval e X.env) :: starEach es X.env := by rfl) (hpl : ((backTo pos (starEach (e :: es) X.env)).any (·.1) || (backToKw pos (keywordEach kws X.env)).any (·.1.isNone)) = false := by rfl) :
    SE X (.Call (.Name x p) (e :: es) kws pos) (E.make C N g ms) := by
  obtain ⟨t, tk, h1, h2, h3⟩ := ha.ex
  refine (pe_makeK M F hr hg hm hb hx h1 h2 (hall := hall) (hks := hks) (hdb := h0) (he := he) (hpl := hpl)).imp fun σ H Q q => ?_
  have q' := make_imp (EE := EE) q
  refine h3 σ H (fun vs zs H2 => vs.length = (e :: es).length ∧ zs.length = ks.length ∧ ∀ x dx, H2 x = none → H2 dx = none → dx ≠ x → spF X.K N g ((.ref x :: vs) ++ zs) (upd (upd H2 dx (.own x)) x (.ins C dx [])) (fun v H3 => v = .non ∧ Q (.ref x) H3) EE) (tAs_mono q' fun all H2 q2 vs zs e1 e2 e3 => ⟨e2, e3, fun a dx ha hdx hne => ?_⟩)
  have := q2 a dx ha hdx hne
  rw [List.append_nil, e1] at this
  exact this
theorem Fun.kbn {K : PySem.W.Frag} {qual : Str} {st : Stmt} (F : Fun K x qual st f fd) (n : Nat) (ks : List Str)
    (h : ∀ (kV doc pm : Value) (an : Option Addr) (cdv ct : Value) (us ws : List Value), us.length = n → ws.length = ks.length → bindArgs (PySem.W.fnOf x qual (defArgs st) (defBody st) (defScope st) .none kV doc pm an cdv ct) ⟨us, ks.zip ws⟩ = pure (ps.zip (us ++ ws))) :
    KBn K fd ps n ks (fun us ws => us ++ ws) (fun vs zs => vs ++ zs) := by
  obtain ⟨oc, od, kV, doc, pm, an, cdv, ct, osl, rfl, lk, hcd⟩ := F.ex
  exact ⟨fun s us ws _ l1 l2 => .of_eq (h kV doc pm an cdv ct us ws l1 l2), fun r1 r2 => r1.append r2⟩
end
end Sy
namespace Sy
open PySem PySem.Spec PyProof.Rows L2
/-! ### a new instance, keyword-only parameters left out: None each -/
section
variable {X : Cx} {CX : CXT} {k n m N : Nat} {f C : Addr} {fd : FuncData} {ps ks : List Str} {g : FM} {EE : XK} {x : Str} {p pos kpos : Pos} {e : Expr} {es : List Expr} {kws : List Keyword} {ms mr : AM} {ma : EM} {dvs : List V}
structure SAD (X : Cx) (es : List Expr) (dvs : List V) (ms : AM) : Prop where
  ex : ∃ t : TA, PA X es t ∧ ∀ σ H (R : List V → Hp → Prop), tAs X.K ms σ H (fun all H2 => ∀ vs, all = vs ++ dvs → R vs H2) → t σ H R
theorem sad_nil2 : SAD X [] [.non, .non] (A.cons (E.c .non) (A.cons (E.c .non) A.nil)) := ⟨tNil, pa_nil, fun σ H R q => by
  show R [] H
  have q1 := c_imp (K := X.K) (fun _ => .non) (cons_imp q)
  have q1' : tAs X.K (A.cons (E.c .non) A.nil) σ H fun xs H2 => ∀ (vs : List V), V.non :: xs = vs ++ [V.non, V.non] → R vs H2 := q1
  have q2 := c_imp (K := X.K) (fun _ => .non) (cons_imp q1')
  have q2' : tAs X.K A.nil σ H fun xs H2 => ∀ (vs : List V), V.non :: V.non :: xs = vs ++ [V.non, V.non] → R vs H2 := q2
  obtain ⟨O, W, sl, os, sl', x, e, q3⟩ := tAs_of q2'
  cases e
  have q4 := q3 W noF [] H ⟨fun _ _ h _ => h, fun i a h => .inl ⟨i, h⟩, fun a ⟨j, h⟩ => by simp [noF] at h⟩
    (x.less fun a h => h.elim id fun ⟨j, h⟩ => by simp [noF] at h) ⟨rfl, fun j o h => by simp at h, fun _ _ => rfl, fun i j a h => by simp [noF] at h⟩ fun j a h => by simp [noF] at h
  exact q4 [] rfl⟩
theorem sad_cons (ha : SE X e ma) (hr : SAD X es dvs mr) (hs : starEach (e :: es) X.env = (false, eval e X.env) :: starEach es X.env := by rfl) : SAD X (e :: es) dvs (A.cons ma mr) := by
  obtain ⟨t, h1, h3⟩ := hr.ex
  refine ⟨_, pa_cons ha h1 hs, fun σ H R q => ?_⟩
  refine tE_mono (cons_imp q) fun y H1 q1 => ?_
  refine h3 σ H1 (fun vs H2 => R (y :: vs) H2) (tAs_mono q1 fun all H2 q2 vs e1 => ?_)
  exact q2 (y :: vs) (by rw [e1]; rfl)
/-- the defaults of a def: so many -/
def DfB (K : PySem.W.Frag) (fd : FuncData) (ps : List Str) (dvs : List V) : Prop := ∃ ds, Vals dvs ds ∧ Binds K fd ps ds
theorem se_makeD (M : Mk X.K C f) (F : FnOk X.prog X.w X.K X.mg X.base CX k f fd ps (spF X.K N g)) (hr : Room (k + 1) X.A) (hm : X.mg x = some (.ref C)) (hb : DfB X.K fd ps dvs) (hx : Passes CX X EE) (ha : SAD X (e :: es) dvs ms)
    (hg : Gl X x := by rfl) (h0 : (x == ("__debug__" : Str)) = false := by decide) (h1 : starEach (e :: es) X.env = (false, eval e X.env) :: starEach es X.env := by rfl) (h2 : (backTo pos (starEach es X.env)).any (·.1) = false := by rfl) :
    SE X (.Call (.Name x p) (e :: es) [] pos) (E.make C N g ms) := by
  obtain ⟨t, h3, h4⟩ := ha.ex
  obtain ⟨ds, hd, hb⟩ := hb
  refine (pe_make M F hr hg hm hb hd hx h3 (hdb := h0) (he := h1) (hpl := h2)).imp fun σ H Q q => ?_
  have q' := make_imp (EE := EE) q
  refine h4 σ H (fun vs H2 => ∀ x dx, H2 x = none → H2 dx = none → dx ≠ x → spF X.K N g (.ref x :: (vs ++ dvs)) (upd (upd H2 dx (.own x)) x (.ins C dx [])) (fun v H3 => v = .non ∧ Q (.ref x) H3) EE) (tAs_mono q' fun all H2 q2 vs e1 a dx ha hdx hne => ?_)
  have := q2 a dx ha hdx hne
  rw [List.append_nil, e1] at this
  exact this
theorem dfb_of {K : PySem.W.Frag} {x qual : Str} {st : Stmt} {f D : Addr} {oc : Value} {od an : Option Addr} {osl : Array (Option Value)} {doc pm cdv ct : Value} {k1 k2 : Str} (l : K.lookup f = some ⟨oc, od, .func (PySem.W.fnOf x qual (defArgs st) (defBody st) (defScope st) .none (.ref D) doc pm an cdv ct), osl⟩)
    (c : PySem.W.codeIn K cdv qual = true) (kp : PySem.W.keepIn K (.ref f) = true) (n1 : PySem.W.nsIn K D k1 = some (some .none)) (n2 : PySem.W.nsIn K D k2 = some (some .none)) (n : Nat) (hn : n + 2 = ps.length)
    (h : ∀ (D : Addr) (doc pm : Value) (an : Option Addr) (cdv ct : Value) (us ks : List Value), us.length = n → ks.length = 2 →
      KwChain D ([k1, k2].zip ks) (bindArgs (PySem.W.fnOf x qual (defArgs st) (defBody st) (defScope st) .none (.ref D) doc pm an cdv ct) ⟨us, []⟩) (ps.zip (us ++ ks))) :
    DfB K (PySem.W.fnOf x qual (defArgs st) (defBody st) (defScope st) .none (.ref D) doc pm an cdv ct) ps [.non, .non] := by
  have F : FunD K x qual (defArgs st) (defBody st) (defScope st) [] [(k1, .non), (k2, .non)] f (PySem.W.fnOf x qual (defArgs st) (defBody st) (defScope st) .none (.ref D) doc pm an cdv ct) :=
    ⟨⟨oc, od, .none, .ref D, doc, pm, an, cdv, ct, osl, rfl, l, c, .inl ⟨rfl, rfl⟩, .inr ⟨D, rfl, fun q hq => by
      rcases List.mem_cons.mp hq with rfl | hq
      · exact ⟨_, n1, rfl⟩
      · rw [List.mem_singleton.mp hq]
        exact ⟨_, n2, rfl⟩⟩⟩, kp⟩
  obtain ⟨ds, h1, h2⟩ := F.binds0 (ps := ps) n (by simp) (by simpa using hn) h
  exact ⟨ds, h1, h2⟩
end
end Sy
namespace Sy
open PySem PySem.Spec PyProof.Rows L2
/-! ### texts as lists of codes -/
def tx (l : List Nat) : Str := ⟨l.toArray⟩
theorem tx_inj {a b : List Nat} (h : tx a = tx b) : a = b := by
  have : (tx a).cps.toList = (tx b).cps.toList := by rw [h]
  simpa [tx] using this
@[simp] theorem tx_list (l : List Nat) : (tx l).cps.toList = l := by simp [tx]
@[simp] theorem tx_len (l : List Nat) : (tx l).length = l.length := by
  show l.toArray.size = _
  simp
/-- a text of the laws: short, of plain signs -/
structure Txo (l : List Nat) : Prop where
  len : l.length ≤ 1000
  le : ∀ c ∈ l, c ≤ 127
theorem Txo.nil : Txo [] := ⟨by simp, fun c h => by simp at h⟩
theorem Txo.one {c : Nat} (h : c ≤ 127) : Txo [c] := ⟨by simp, fun d hd => by simp at hd; omega⟩
theorem Txo.app {a b : List Nat} (ha : Txo a) (hb : Txo b) (h : a.length + b.length ≤ 1000) : Txo (a ++ b) := ⟨by simpa using h, fun c hc => (List.mem_append.mp hc).elim (ha.le c) (hb.le c)⟩
theorem Txo.sub {a b : List Nat} (h : a.Sublist b) (hb : Txo b) : Txo a := ⟨Nat.le_trans h.length_le hb.len, fun c hc => hb.le c (h.subset hc)⟩
theorem Txo.ok {l : List Nat} (h : Txo l) : PyData.strOk (tx l) = true := by
  show (tx l).cps.all (· < 0x110000) = true
  rw [Array.all_eq_true']
  intro c hc
  have := h.le c (by simpa [tx] using hc)
  simp
  omega
theorem Txo.line {l : List Nat} (h : Txo l) : l.length ≤ sizeLine := le_size (by have := h.len; omega)
@[simp] theorem lenD_tx {l : List Nat} (h : l.length ≤ sizeLine) : lenD [.str (tx l)] = it l.length := by
  rw [lenD_str, tx_len, if_pos h]
theorem ixD_tx {l : List Nat} {i : Int} (h : l.length ≤ sizeLine) : ixD (.str (tx l)) (.int i) = (atI l i).map fun c => .val (.str (tx [c])) := by
  rw [ixD_str, tx_len, if_pos h, tx_list]
  rfl
theorem slD_tx {l : List Nat} {lo hi : Option Int} (h : l.length ≤ sizeLine) : slD (.str (tx l)) lo hi = some (.val (.str (tx (cutL l lo hi)))) := by
  show (if (tx l).length ≤ sizeLine then some (MV.val (.str (cutS (tx l) lo hi))) else none) = _
  rw [tx_len, if_pos h]
  unfold cutS cutL
  rw [tx_list, tx_len]
  rfl
theorem chars_tx (l : List Nat) : chars (tx l) = l.map fun c => DV.str (tx [c]) := by
  unfold chars
  rw [tx_list]
  rfl
theorem tx_app (a b : List Nat) : tx a ++ tx b = tx (a ++ b) := by
  show (⟨a.toArray ++ b.toArray⟩ : Str) = ⟨(a ++ b).toArray⟩
  congr 1
  simp
theorem addD_tx {a b : List Nat} (h : a.length + b.length ≤ sizeLine) : addD (.str (tx a)) (.str (tx b)) = some (.val (.str (tx (a ++ b)))) := by
  show (if (tx a).length + (tx b).length ≤ sizeLine then some (MV.val (.str (tx a ++ tx b))) else none) = _
  rw [tx_len, tx_len, if_pos h, tx_app]
theorem eqD_tx {a b : List Nat} (ha : Txo a) (hb : Txo b) : eqD (.str (tx a)) (.str (tx b)) = bl (decide (a = b)) := by
  rw [eqD_str ha.ok hb.ok]
  congr 1
  exact decide_eq_decide.mpr ⟨tx_inj, fun h => by rw [h]⟩
theorem neD_tx {a b : List Nat} (ha : Txo a) (hb : Txo b) : neD (.str (tx a)) (.str (tx b)) = bl (!decide (a = b)) := by
  rw [neD_str ha.ok hb.ok]
  congr 2
  exact decide_eq_decide.mpr ⟨tx_inj, fun h => by rw [h]⟩
@[simp] theorem inS_tx {c : Nat} {l : List Nat} : inS (.str (tx [c])) (.str (tx l)) = bl (decide (c ∈ l)) := by
  show (sign1 (tx [c]).cps.toList).bind (fun c => bl (decide (c ∈ (tx l).cps.toList))) = _
  rw [tx_list, tx_list]
  rfl
@[simp] theorem ninS_tx {c : Nat} {l : List Nat} : ninS (.str (tx [c])) (.str (tx l)) = bl (!decide (c ∈ l)) := by
  show (sign1 (tx [c]).cps.toList).bind (fun c => bl (!decide (c ∈ (tx l).cps.toList))) = _
  rw [tx_list, tx_list]
  rfl
theorem mulS_tx {c k : Nat} (h2 : 2 ≤ k) (h : k ≤ 100) : mulS (.str (tx [c])) (.int (k : Int)) = some (.val (.str (tx (List.replicate k c)))) := by
  show (sign1 (tx [c]).cps.toList).bind (fun c => if 2 ≤ (k : Int) ∧ (k : Int) ≤ 100 then some (MV.val (.str ⟨(List.replicate ((k : Int)).toNat c).toArray⟩)) else none) = _
  rw [tx_list]
  show (if 2 ≤ (k : Int) ∧ (k : Int) ≤ 100 then some (MV.val (.str ⟨(List.replicate ((k : Int)).toNat c).toArray⟩)) else none) = _
  rw [if_pos ⟨by omega, by omega⟩]
  rfl
theorem leD_tx {a b : List Nat} : leD (.str (tx a)) (.str (tx b)) = bl (!decide (b < a)) := by
  show bl (!decide ((tx b).cps.toList < (tx a).cps.toList)) = _
  rw [tx_list, tx_list]
theorem truth_tx {l : List Nat} (h : l.length ≤ sizeLine) : truth (.str (tx l)) = some (!l.isEmpty) := by
  show (if (tx l).length ≤ sizeLine then some (((tx l).length : Int) != 0) else none) = _
  rw [tx_len, if_pos h]
  cases l with
  | nil => rfl
  | cons a l => rfl
theorem join_tx : ∀ xs : List (List Nat), Txt.join (tx []) (xs.map tx) = tx xs.flatten := fun xs => by
  apply TL.ext_tl
  rw [TL.join_eq, TL.tl_join]
  have h : ∀ ys : List (List Nat), TL.joinL [] ys = ys.flatten := fun ys => by
    induction ys with
    | nil => rfl
    | cons y ys ih =>
      cases ys with
      | nil => simp [TL.joinL]
      | cons z zs => rw [TL.joinL, List.nil_append, ih]; rfl
  have e : TL.tl (tx []) = [] := tx_list []
  rw [e, List.map_map]
  have e2 : (TL.tl ∘ tx) = id := funext fun l => tx_list l
  rw [e2, List.map_id, h]
  exact (tx_list _).symm
theorem joinD_tx {xs : List (List Nat)} (h : (xs.map List.length).sum ≤ 16777216) : joinD "" (.lst (xs.map fun l => DV.str (tx l))) = some (.val (.str (tx xs.flatten))) := by
  have e : (xs.map fun l => DV.str (tx l)) = (xs.map tx).map DV.str := by rw [List.map_map]; rfl
  show ((strsOf (xs.map fun l => DV.str (tx l))).bind fun ys => if (ys.map (·.length)).sum + ys.length * ("" : Str).length ≤ 16777216 then some (MV.val (.str (Txt.join "" ys))) else none) = _
  rw [e, strsOf_map]
  have e0 : ("" : Str) = tx [] := by rfl
  have e1 : ((xs.map tx).map (·.length)) = xs.map List.length := by
    rw [List.map_map]
    exact List.map_congr_left fun l _ => tx_len l
  show (if ((xs.map tx).map (·.length)).sum + (xs.map tx).length * ("" : Str).length ≤ 16777216 then some (MV.val (.str (Txt.join "" (xs.map tx)))) else none) = _
  rw [e0, e1, tx_len, List.length_nil, Nat.mul_zero, Nat.add_zero, if_pos h, join_tx]
/-- shapes of texts -/
theorem shp_tx {n : Nat} {l : List Nat} (h : Txo l) : shp n (.str (tx l)) = true := by
  cases n <;> exact h.ok
end Sy
namespace Sy
open PySem PySem.Spec PyProof.Rows L2
/-! ### try with two clauses that have names -/
section
variable {X : Cx} {pins : List (Addr × Obj)} {σ : L2.St} {H : Hp} {s : Shared} {a : Addr} {cls c : Value} {d : Option Addr} {D : Ends} {Wout : WX} {x n : Str} {np pos pos' : Pos} {i : Nat} {suite : List Stmt} {b0 : Stmt}
/-- an exception has come to the clauses -/
structure Here (X : Cx) (pins : List (Addr × Obj)) (σ : L2.St) (H : Hp) (a : Addr) (cls : Value) (d : Option Addr) (s : Shared) : Prop where
  ex : ∃ (B : Heap) (t : Shared), Inv X pins σ H t ∧ (∀ b o, t.heap.get? b = some o → b ∉ frs X.stack → B.get? b = some o) ∧ t.heap.UpToSlots s.heap ∧ HandSPX.FlyingZ B (X.env :: X.outer) a (Zc cls d) s.heap ∧ s.os = t.os ∧ AllBare s.gens
  no : H a = none
theorem Here.inv (h : Here X pins σ H a cls d s) : Inv X pins σ H s := by
  obtain ⟨B, t, h1, h2, h3, h4, h5, h6⟩ := h.ex
  exact h1.landed h2 h4.1 h3 h5 h6
theorem Here.obj (h : Here X pins σ H a cls d s) : ∃ oe vs, s.heap.get? a = some oe ∧ Zc cls d oe ∧ oe.data = .fields vs := by
  obtain ⟨B, t, _, _, _, h4, _, _⟩ := h.ex
  exact h4.there
theorem Here.far (hf : X.env.frame = some X.env.locals) (h : Here X pins σ H a cls d s) : a ≠ X.env.locals ∧ a ∉ X.fs := by
  obtain ⟨B, t, _, _, _, h4, _, _⟩ := h.ex
  obtain ⟨oe, vs, e1, _, e2⟩ := h4.there
  have off : a ∉ frs (X.env :: X.outer) := by
    intro hm
    obtain ⟨_, ob, e3, e4⟩ := h4.2.2.1.mem hm
    rw [e1] at e3
    cases e3
    exact e4 _ e2
  constructor
  · intro z
    exact off (List.mem_filterMap.mpr ⟨X.env, by simp, by rw [hf, z]⟩)
  · intro hm
    obtain ⟨v, hv, q⟩ := List.mem_filterMap.mp hm
    exact off (List.mem_filterMap.mpr ⟨v, by simp [hv], q⟩)
/-- as the suite sees it -/
theorem Here.within (hf : X.env.frame = some X.env.locals) (h : Here X pins σ H a cls d s) : ∃ oe vs, Zc cls d oe ∧ oe.data = .fields vs ∧ s.heap.get? a = some oe ∧ Inv (X.suite a ((a, oe) :: (X.pn ++ pins))) [] σ H s := by
  obtain ⟨oe, vs, e1, e2, e3⟩ := h.obj
  obtain ⟨f1, f2⟩ := h.far hf
  exact ⟨oe, vs, e2, e3, e1, h.inv.suite e1 e3 h.no f1 f2⟩
theorem Here.calm {M : Model} {A : Around} {E : Value → Shared → Prop} {Q : Unit → Shared → Prop} (h : Here X pins σ H a cls d s) (q : ∀ s', Here X pins σ H a cls d s' → Q () s') : wpAny M A (setFlight (.ref a) none) Q E s := by
  obtain ⟨B, t, h1, h2, h3, h4, h5, h6⟩ := h.ex
  exact HandSPX.lands_againZ h4 fun hp k1 k2 => q _ ⟨⟨B, t, h1, h2, h3.trans k2, k1, h5, h6⟩, h.no⟩
/-- no clause is left -/
theorem Here.out (hs : X.stack = X.env :: X.outer) (hf : X.env.frame = some X.env.locals) (tk : Takes X Wout) (w : Wout cls d σ H) {Q : Flow → Shared → Prop} (h : Here X pins σ H a cls d s) : wpAny (model X.prog X.w) X.A (handleBy (.ref a) X.env []) Q X.xe s := by
  obtain ⟨B, t, h1, h2, h3, h4, h5, h6⟩ := h.ex
  have again : wpAny (model X.prog X.w) X.A (setFlight (.ref a) X.env.frame) (fun _ s4 => wpAny (model X.prog X.w) X.A (throw (.ref a) : Sem Flow) Q X.xe s4) X.xe s := by
    rw [hf]
    exact HandSPX.setFlight_upZ h4 fun hp k1 k2 => wpAny_throw (tk _ _ ⟨a, B, t, pins, σ, H, cls, d, rfl, h1, h2, h3.trans k2, .inr (.inr (by rw [hs]; exact k1)), h.no, h5, h6, w⟩)
  obtain ⟨_, _, _, oe, vs, T, oT, ts, e1, _, e3, e4, _⟩ := h4
  refine wpAny_handleBy_nil ?_
  unfold PySem.passOn
  refine wpAny_bind (wpAny_field e1 e3 e4 ?_)
  have nz : ¬ ((Value.ref T == Value.none) = true) := by simp
  rw [if_neg nz]
  first
    | exact wpAny_bind (wpAny_pure (wpAny_bind again))
    | exact wpAny_bind again
/-- is it of the class? -/
theorem Here.asked {b : Bool} (hf : X.env.frame = some X.env.locals) (hc : Names X x c) (hb : PySem.W.exmOne X.K cls c = some b) (h : Here X pins σ H a cls d s) {R : Bool → Shared → Prop} {E E1 : Value → Shared → Prop} (q : R b s) :
    wpAny (model X.prog X.w) (X.A.mark (some (.ref a))) (eval (.Name x np) X.env) (fun v s1 => wpAny (model X.prog X.w) (X.A.mark (some (.ref a))) (excMatches (.ref a) v) R E1 s1) E s := by
  obtain ⟨oe, vs, z, _, e1, S⟩ := h.within hf
  have ty : PySem.W.Looks (model X.prog X.w) s.heap (typeOf (.ref a)) cls := fun A Q E t k q => wpAny_typeOf_ref (k _ _ e1) (by rw [z.1]; exact q)
  have is := PySem.W.exm_one (M := model X.prog X.w) h.inv.kIn ty hb
  have fin : wpAny (model X.prog X.w) (X.A.mark (some (.ref a))) (excMatches (.ref a) c) R E1 s := is.here q
  obtain ⟨g1, g2, g3 | ⟨g3, g4, g5⟩⟩ := hc
  · exact ld_glob (X := X.suite a ((a, oe) :: (X.pn ++ pins))) S g1 g3 fin g2
  · exact ld_blt (X := X.suite a ((a, oe) :: (X.pn ++ pins))) S g1 g3 g4 fin g5 g2
/-- what a clause with a name wishes of the suite's ends -/
abbrev goneD (D : Ends) (i : Nat) : Ends := { nx := fun σ' H' => D.nx (σ'.set i none) H', rt := D.rt, bk := fun σ' H' => D.bk (σ'.set i none) H', ct := fun σ' H' => D.ct (σ'.set i none) H' }
theorem Here.clause {b : Bool} {hds : List ExceptHandler} {ts : Addr → Value → Option Addr → TS} (hf : X.env.frame = some X.env.locals) (ok : X.Ok) (hN : X.N.Nodup) (hi : X.N[i]? = some n) (hln : X.env.kindOf n = some .local) (hc : Names X x c) (hb : PySem.W.exmOne X.K cls c = some b)
    (hsu : ∀ (a : Addr) (oe : Obj) (cls : Value) (d : Option Addr) (pn : List (Addr × Obj)), Zc cls d oe → (∃ vs, oe.data = .fields vs) → PSs (X.suite a ((a, oe) :: pn)) (b0 :: suite) (ts a cls d))
    (h : Here X pins σ H a cls d s) (yes : b = true → ts a cls d (goneD D i) (σ.set i (some (.ref a))) H) (nope : b = false → wpAny (model X.prog X.w) X.A (handleBy (.ref a) X.env hds) (SP X pins D) X.xe s) :
    wpAny (model X.prog X.w) X.A (handleBy (.ref a) X.env (.ExceptHandler (some (.Name x np)) (some n) (b0 :: suite) pos' :: hds)) (SP X pins D) X.xe s := by
  refine wpAny_handleBy_cons (codeAny_handlers_test (h.asked hf hc hb ?_)) (by intro q; cases q)
  cases b with
  | false => exact nope rfl
  | true =>
    refine codeAny_handlers_suite_as (h.calm fun s4 h4 => ?_)
    obtain ⟨oe, vs, z, e2, e1, S⟩ := h4.within hf
    refine store_ok (X := X.suite a ((a, oe) :: (X.pn ++ pins))) (v := .ref a) S hN hi (.inl hln) rfl (fun s5 S5 => ?_) (.inr hln)
    refine wpAny_mono ((hsu a oe cls d (X.pn ++ pins) z ⟨_, e2⟩).run [] s5 _ H _ S5 (yes rfl)) (fun f s6 sp => ?_) (fun _ _ z => False.elim z)
    have gone : ∀ {σ6 : L2.St} {H6 : Hp} {Q : Shared → Prop}, Inv (X.suite a ((a, oe) :: (X.pn ++ pins))) [] σ6 H6 s6 → (∀ s7, Inv X pins (σ6.set i none) H6 s7 → Q s7) →
        wpAny (model X.prog X.w) X.A (do bindName X.env n .none; unbindBehindTheSuite X.env n pos') (fun _ s7 => Q s7) X.xe s6 := fun S6 hq => gone_ok (S6.unsuite ok) hN hi hln hq
    cases f with
    | next => obtain ⟨σ6, H6, S6, q6⟩ := sp; exact gone S6 fun s7 J7 => ⟨_, _, J7, q6⟩
    | brk => obtain ⟨σ6, H6, S6, q6⟩ := sp; exact gone S6 fun s7 J7 => ⟨_, _, J7, q6⟩
    | cont => obtain ⟨σ6, H6, S6, q6⟩ := sp; exact gone S6 fun s7 J7 => ⟨_, _, J7, q6⟩
    | ret u => obtain ⟨v6, σ6, H6, S6, r6, q6⟩ := sp; exact gone S6 fun s7 J7 => ⟨_, _, _, J7, r6, q6⟩
end
section
variable {X : Cx} {x1 x2 n1 n2 : Str} {c1 c2 : Value} {i1 i2 : Nat} {body u1 u2 : List Stmt} {b1 b2 : Stmt} {np1 np2 pos q1 q2 : Pos} {tb : WX → TS} {t1 t2 : Addr → Value → Option Addr → TS} {Wout : WX}
theorem ps_try_as2 (hs : X.stack = X.env :: X.outer) (hf : X.env.frame = some X.env.locals) (hN : X.N.Nodup) (hi1 : X.N[i1]? = some n1) (hl1 : X.env.kindOf n1 = some .local) (hc1 : Names X x1 c1) (hi2 : X.N[i2]? = some n2) (hl2 : X.env.kindOf n2 = some .local) (hc2 : Names X x2 c2) (tk : Takes X Wout)
    (hb : ∀ (W : WX) (pn : List (Addr × Obj)) (xe : Value → Shared → Prop), Takes (X.tr pn xe) W → PassesOwn (model X.prog X.w) X.A X.env xe → PSs (X.tr pn xe) body (tb W))
    (h1 : ∀ (a : Addr) (oe : Obj) (cls : Value) (d : Option Addr) (pn : List (Addr × Obj)), Zc cls d oe → (∃ vs, oe.data = .fields vs) → PSs (X.suite a ((a, oe) :: pn)) (b1 :: u1) (t1 a cls d))
    (h2 : ∀ (a : Addr) (oe : Obj) (cls : Value) (d : Option Addr) (pn : List (Addr × Obj)), Zc cls d oe → (∃ vs, oe.data = .fields vs) → PSs (X.suite a ((a, oe) :: pn)) (b2 :: u2) (t2 a cls d)) :
    PS X (.Try body [.ExceptHandler (some (.Name x1 np1)) (some n1) (b1 :: u1) q1, .ExceptHandler (some (.Name x2 np2)) (some n2) (b2 :: u2) q2] [] [] pos) (fun D σ H => tb (wAs X.K c1 i1 t1 (wAs X.K c2 i2 t2 Wout D) D) D σ H) := by
  refine ⟨fun pins s σ H D I h => ?_⟩
  have ok := I.ok
  have hfr : X.A.frames = some (X.env :: X.outer) := by rw [ok.frames, hs]
  refine wpAny_Try_except ?_
  refine wpAny_mono ((hb (wAs X.K c1 i1 t1 (wAs X.K c2 i2 t2 Wout D) D) (X.pn ++ pins) (fun e sa => wpAny (model X.prog X.w) X.A (noteFrame e X.env) (fun _ sb => wpAny (model X.prog X.w) X.A (setFlight e none) (fun _ sc =>
    wpAny (model X.prog X.w) X.A (handleBy e X.env [.ExceptHandler (some (.Name x1 np1)) (some n1) (b1 :: u1) q1, .ExceptHandler (some (.Name x2 np2)) (some n2) (b2 :: u2) q2]) (SP X pins D) X.xe sc) X.xe sb) X.xe sa) (fun u s' hx => ?_) PassesOwn.looking).run [] s σ H D (I.toTry _) h) (fun f sd sp => ?_) (fun e se he => he)
  · obtain ⟨a, B, t, pins', σ', H', cls, d, rfl, J, nb, up, sky, na, os, ag, b, hb1, yes1, no1⟩ := hx
    have sky' : Sky B (X.env :: X.outer) a (Zc cls d) X.env.locals s'.heap := by rw [← hs]; exact sky
    show wpAny (model X.prog X.w) X.A (noteFrame (.ref a) X.env) _ _ _
    refine Sky.land Zc.steady hfr hf sky' fun hp fl up2 => ?_
    have hh : Here X pins σ' H' a cls d { s' with heap := hp } := ⟨⟨B, t, J.ofTry ok, nb, up.trans up2, fl, os, ag⟩, na⟩
    refine hh.clause hf ok hN hi1 hl1 hc1 hb1 h1 (fun z => yes1 z a na) fun z => ?_
    obtain ⟨b', hb2, yes2, no2⟩ := no1 z
    exact hh.clause hf ok hN hi2 hl2 hc2 hb2 h2 (fun z => yes2 z a na) fun z => hh.out hs hf tk (no2 z)
  · cases f with
    | next => obtain ⟨σ', H', J', q⟩ := sp; exact wpAny_execs_nil ⟨σ', H', J'.ofTry ok, q⟩
    | brk => obtain ⟨σ', H', J', q⟩ := sp; exact ⟨σ', H', J'.ofTry ok, q⟩
    | cont => obtain ⟨σ', H', J', q⟩ := sp; exact ⟨σ', H', J'.ofTry ok, q⟩
    | ret u => obtain ⟨v, σ', H', J', r, q⟩ := sp; exact ⟨v, σ', H', J'.ofTry ok, r, q⟩
end
end Sy
namespace Sy
open PySem PySem.Spec PyProof.Rows L2
section
variable {X : Cx} {x1 n1 : Str} {c1 : Value} {i1 : Nat} {body u1 : List Stmt} {b1 : Stmt} {np1 pos q1 : Pos} {tb : WX → TS} {t1 : Addr → Value → Option Addr → TS} {hds : List ExceptHandler}
/-- the first clause takes all that the body raises: the others don't matter -/
theorem ps_try_asR (hs : X.stack = X.env :: X.outer) (hf : X.env.frame = some X.env.locals) (hN : X.N.Nodup) (hi1 : X.N[i1]? = some n1) (hl1 : X.env.kindOf n1 = some .local) (hc1 : Names X x1 c1)
    (hb : ∀ (W : WX) (pn : List (Addr × Obj)) (xe : Value → Shared → Prop), Takes (X.tr pn xe) W → PassesOwn (model X.prog X.w) X.A X.env xe → PSs (X.tr pn xe) body (tb W))
    (h1 : ∀ (a : Addr) (oe : Obj) (cls : Value) (d : Option Addr) (pn : List (Addr × Obj)), Zc cls d oe → (∃ vs, oe.data = .fields vs) → PSs (X.suite a ((a, oe) :: pn)) (b1 :: u1) (t1 a cls d)) :
    PS X (.Try body (.ExceptHandler (some (.Name x1 np1)) (some n1) (b1 :: u1) q1 :: hds) [] [] pos) (fun D σ H => tb (wAs X.K c1 i1 t1 (fun _ _ _ _ => False) D) D σ H) := by
  refine ⟨fun pins s σ H D I h => ?_⟩
  have ok := I.ok
  have hfr : X.A.frames = some (X.env :: X.outer) := by rw [ok.frames, hs]
  refine wpAny_Try_except ?_
  refine wpAny_mono ((hb (wAs X.K c1 i1 t1 (fun _ _ _ _ => False) D) (X.pn ++ pins) (fun e sa => wpAny (model X.prog X.w) X.A (noteFrame e X.env) (fun _ sb => wpAny (model X.prog X.w) X.A (setFlight e none) (fun _ sc =>
    wpAny (model X.prog X.w) X.A (handleBy e X.env (.ExceptHandler (some (.Name x1 np1)) (some n1) (b1 :: u1) q1 :: hds)) (SP X pins D) X.xe sc) X.xe sb) X.xe sa) (fun u s' hx => ?_) PassesOwn.looking).run [] s σ H D (I.toTry _) h) (fun f sd sp => ?_) (fun e se he => he)
  · obtain ⟨a, B, t, pins', σ', H', cls, d, rfl, J, nb, up, sky, na, os, ag, b, hb1, yes1, no1⟩ := hx
    have sky' : Sky B (X.env :: X.outer) a (Zc cls d) X.env.locals s'.heap := by rw [← hs]; exact sky
    show wpAny (model X.prog X.w) X.A (noteFrame (.ref a) X.env) _ _ _
    refine Sky.land Zc.steady hfr hf sky' fun hp fl up2 => ?_
    have hh : Here X pins σ' H' a cls d { s' with heap := hp } := ⟨⟨B, t, J.ofTry ok, nb, up.trans up2, fl, os, ag⟩, na⟩
    exact hh.clause hf ok hN hi1 hl1 hc1 hb1 h1 (fun z => yes1 z a na) fun z => (no1 z).elim
  · cases f with
    | next => obtain ⟨σ', H', J', q⟩ := sp; exact wpAny_execs_nil ⟨σ', H', J'.ofTry ok, q⟩
    | brk => obtain ⟨σ', H', J', q⟩ := sp; exact ⟨σ', H', J'.ofTry ok, q⟩
    | cont => obtain ⟨σ', H', J', q⟩ := sp; exact ⟨σ', H', J'.ofTry ok, q⟩
    | ret u => obtain ⟨v, σ', H', J', r, q⟩ := sp; exact ⟨v, σ', H', J'.ofTry ok, r, q⟩
end
/-- what a suite's semantics says of the exception -/
abbrev tSui (K : PySem.W.Frag) (C : Addr) (ms : Addr → Addr → SM) (as : List Nat) : Addr → Value → Option Addr → TS := fun a cls d D σ H => ∃ dd, d = some dd ∧ cls = .ref C ∧ tS K (fun _ _ _ _ => False) (ms a dd) as D σ H
theorem sui_ok {X : Cx} {C : Addr} {ms : Addr → Addr → SM} {as : List Nat} {b0 : Stmt} {suite : List Stmt} (hsuite : ∀ (a : Addr) (oe : Obj) (dd : Addr) (pn : List (Addr × Obj)), Zc (.ref C) (some dd) oe → (∃ vs, oe.data = .fields vs) → SSs (X.suite a ((a, oe) :: pn)) (b0 :: suite) (ms a dd) as)
    (a : Addr) (oe : Obj) (cls : Value) (d : Option Addr) (pn : List (Addr × Obj)) (hz : Zc cls d oe) (hf : ∃ vs, oe.data = .fields vs) : PSs (X.suite a ((a, oe) :: pn)) (b0 :: suite) (tSui X.K C ms as a cls d) := by
  by_cases hd : ∃ dd, d = some dd ∧ cls = .ref C
  · obtain ⟨dd, rfl, rfl⟩ := hd
    exact (hsuite a oe dd pn hz hf _ takes0).imp fun D σ H q => by
      obtain ⟨dd', e, _, q⟩ := q
      cases e
      exact q
  · exact ⟨fun pins s σ H D I q => by
      obtain ⟨dd, e1, e2, _⟩ := q
      exact absurd ⟨dd, e1, e2⟩ hd⟩
theorem fins_ne {i : Nat} {r : SRes} {y : Exc} {s : Sl} (h : fins i r = .exc y s) : False := by
  cases r <;> cases h
section
variable {X : Cx} {as : List Nat} {x1 x2 n1 n2 : Str} {C1 C2 : Addr} {i1 i2 : Nat} {body u1 u2 : List Stmt} {b1 b2 : Stmt} {np1 np2 pos q1 q2 : Pos} {mb : SM} {m1 m2 : Addr → Addr → SM} {hds : List ExceptHandler}
theorem ss_tryAsR (hs : X.stack = X.env :: X.outer) (hf : X.env.frame = some X.env.locals) (hN : X.N.Nodup) (hc : Names X x1 (.ref C1)) (hyes : PySem.W.exmOne X.K (.ref C1) (.ref C1) = some true)
    (hbody : ∀ (pn : List (Addr × Obj)) (xe : Value → Shared → Prop), PassesOwn (model X.prog X.w) X.A X.env xe → SSs (X.tr pn xe) body mb as)
    (hsuite : ∀ (a : Addr) (oe : Obj) (dd : Addr) (pn : List (Addr × Obj)), Zc (.ref C1) (some dd) oe → (∃ vs, oe.data = .fields vs) → SSs (X.suite a ((a, oe) :: pn)) (b1 :: u1) (m1 a dd) as)
    (hi : X.N[i1]? = some n1 := by rfl) (hln : X.env.kindOf n1 = some .local := by rfl) (ha : i1 ∈ as := by decide) :
    SS X (.Try body (.ExceptHandler (some (.Name x1 np1)) (some n1) (b1 :: u1) q1 :: hds) [] [] pos) (S.tryAs i1 C1 [] mb m1) as := fun Wx tk =>
  (ps_try_asR (tb := fun W => tS X.K W mb as) (t1 := tSui X.K C1 m1 as) hs hf hN hi hln hc (fun W pn xe t po => hbody pn xe po W t) (sui_ok hsuite)).imp fun D σ H q =>
    try_imp (Wx := fun _ _ _ _ => False) hyes (fun A h => (List.not_mem_nil h).elim) ha (by
      obtain ⟨O, W, sl, x, q⟩ := q
      refine ⟨O, W, sl, x, ?_⟩
      cases e : S.tryAs i1 C1 [] mb m1 sl with
      | exc y s =>
        exfalso
        have none : ∀ y s, S.tryAs i1 C1 [] mb m1 sl ≠ .exc y s := by
          intro y s z
          unfold S.tryAs at z
          split at z
          · split at z
            · split at z
              · rename_i x0 s0 _ _ _
                unfold pick at z
                split at z
                · rename_i ex
                  have := Classical.choose_spec ex 0 0
                  rw [z] at this
                  exact fins_ne this
                · cases z
              · cases z
            · simp at z
          · rename_i h0
            exact h0 _ _ z
        exact none _ _ e
      | nx s => rw [e] at q; exact q
      | bk s => rw [e] at q; exact q
      | ct s => rw [e] at q; exact q
      | ret m s => rw [e] at q; exact q
      | stuck => rw [e] at q; exact q)
theorem ss_tryAs2 (hs : X.stack = X.env :: X.outer) (hf : X.env.frame = some X.env.locals) (hN : X.N.Nodup) (hc1 : Names X x1 (.ref C1)) (hc2 : Names X x2 (.ref C2)) (y1 : PySem.W.exmOne X.K (.ref C1) (.ref C1) = some true) (y2 : PySem.W.exmOne X.K (.ref C2) (.ref C2) = some true) (no : PySem.W.exmOne X.K (.ref C2) (.ref C1) = some false)
    (hbody : ∀ (pn : List (Addr × Obj)) (xe : Value → Shared → Prop), PassesOwn (model X.prog X.w) X.A X.env xe → SSs (X.tr pn xe) body mb as)
    (s1 : ∀ (a : Addr) (oe : Obj) (dd : Addr) (pn : List (Addr × Obj)), Zc (.ref C1) (some dd) oe → (∃ vs, oe.data = .fields vs) → SSs (X.suite a ((a, oe) :: pn)) (b1 :: u1) (m1 a dd) as)
    (s2 : ∀ (a : Addr) (oe : Obj) (dd : Addr) (pn : List (Addr × Obj)), Zc (.ref C2) (some dd) oe → (∃ vs, oe.data = .fields vs) → SSs (X.suite a ((a, oe) :: pn)) (b2 :: u2) (m2 a dd) as)
    (hi1 : X.N[i1]? = some n1 := by rfl) (hl1 : X.env.kindOf n1 = some .local := by rfl) (ha1 : i1 ∈ as := by decide) (hi2 : X.N[i2]? = some n2 := by rfl) (hl2 : X.env.kindOf n2 = some .local := by rfl) (ha2 : i2 ∈ as := by decide) :
    SS X (.Try body [.ExceptHandler (some (.Name x1 np1)) (some n1) (b1 :: u1) q1, .ExceptHandler (some (.Name x2 np2)) (some n2) (b2 :: u2) q2] [] [] pos) (S.tryAs i2 C2 [] (S.tryAs i1 C1 [C2] mb m1) m2) as := fun Wx tk =>
  (ps_try_as2 (tb := fun W => tS X.K W mb as) (t1 := tSui X.K C1 m1 as) (t2 := tSui X.K C2 m2 as) hs hf hN hi1 hl1 hc1 hi2 hl2 hc2 tk (fun W pn xe t po => hbody pn xe po W t) (sui_ok s1) (sui_ok s2)).imp fun D σ H q =>
    try_imp y1 (fun A h => by rw [List.mem_singleton.mp h]; exact no) ha1 (try_imp y2 (fun A h => (List.not_mem_nil h).elim) ha2 q)
end
theorem exm_not {K : PySem.W.Frag} {C D : Addr} (h1 : PySem.W.subIn K (.ref C) (.type "BaseException") = some true) (h2 : PySem.W.isClsIn K C = true) (h3 : PySem.W.typeIn K (.ref C) = some (.type "type")) (h4 : PySem.W.subIn K (.ref D) (.ref C) = some false) : PySem.W.exmOne K (.ref D) (.ref C) = some false := by
  have a : (PySem.W.subIn K (.ref C) (.type "BaseException") == some true) = true := by rw [h1]; rfl
  have h2' : (PySem.W.clsIn K C).isSome = true := h2
  have b : ((PySem.W.clsIn K C).isSome && PySem.W.typeIn K (.ref C) == some (.type "type")) = true := by rw [h2', h3]; rfl
  show (if _ = true then (if _ = true then _ else none) else none) = some false
  rw [if_pos a, if_pos b]
  exact h4
end Sy
namespace Sy
open PySem PySem.Spec PyProof.Rows L2
/-! ### xs.reverse(), xs.insert(i, y) -/
section
variable {K : PySem.W.Frag}
def rvsF : List DV → List DV → Option (DV × List DV)
  | xs, [] => some (.non, xs.reverse)
  | _, _ => none
theorem RDs.rev {G : Hp} : ∀ {ds : List DV} {vs : List V}, RDs K G ds vs → RDs K G ds.reverse vs.reverse
  | _, _, .nil => .nil
  | _, _, .cons h t => by
    rw [List.reverse_cons, List.reverse_cons]
    exact (RDs.rev t).append (.cons h .nil)
theorem bm_rvs : BM K rReverse rvsF := fun P H a vs ws xs ds d xs' Q h hH rx rd q => by
  unfold rvsF at h
  split at h
  · cases h
    cases rd
    exact ⟨a, vs, rfl, rfl, hH, q _ _ (RDs.rev rx) .non⟩
  · cases h
@[simp] theorem rvsF_eq {xs : List DV} : rvsF xs [] = some (.non, xs.reverse) := rfl
def insF : List DV → List DV → Option (DV × List DV)
  | xs, [.int i, d] => if 0 ≤ i ∧ i ≤ 1000000 ∧ xs.length ≤ 10000000 then some (.non, xs.take i.toNat ++ [d] ++ xs.drop i.toNat) else none
  | _, _ => none
def rIns : V → List V → Hp → VK → Prop := fun x vs H Q => ∃ (l : Addr) (xs : List V) (i : Int) (y : V), x = .ref l ∧ vs = [.int i, y] ∧ H l = some (.lst xs) ∧ xs.length < sizeLine ∧ 0 ≤ i ∧ i < 2 ^ 63 ∧ Q .non (upd H l (.lst (xs.take i.toNat ++ [y] ++ xs.drop i.toNat)))
theorem bm_ins : BM K rIns insF := fun P H a vs ws xs ds d xs' Q h hH rx rd q => by
  unfold insF at h
  split at h
  · split at h
    · rename_i hc
      cases h
      cases rd with
      | cons r1 r2 =>
        cases r2 with
        | cons r3 r4 =>
          cases r4
          cases r1
          exact ⟨a, vs, _, _, rfl, rfl, hH, by rw [← RDs.length rx, sizeLine_eq]; omega, hc.1, by omega, q _ _ (((rx.take _).append (.cons r3 .nil)).append (rx.drop _)) .non⟩
    · cases h
  · cases h
@[simp] theorem insF_eq {xs : List DV} {i : Int} {d : DV} : insF xs [.int i, d] = if 0 ≤ i ∧ i ≤ 1000000 ∧ xs.length ≤ 10000000 then some (.non, xs.take i.toNat ++ [d] ++ xs.drop i.toNat) else none := rfl
end
/-! ### the last of what is sorted -/
theorem sort_last {α : Type} [DecidableEq α] [PySem.W.DatumOrd α] {l : List α} {m : α} (h : (l.mergeSort fun a b => !PySem.W.DatumOrd.lt b a).getLast? = some m) : m ∈ l ∧ ∀ y ∈ l, PySem.W.DatumOrd.lt m y = false := by
  have hm : ∀ y, y ∈ (l.mergeSort fun a b => !PySem.W.DatumOrd.lt b a) ↔ y ∈ l := fun y => List.mem_mergeSort
  have hp := PySem.W.sort_pairwise (totalLe (α := α)) l
  generalize (l.mergeSort fun a b => !PySem.W.DatumOrd.lt b a) = S at *
  obtain ⟨t, rfl⟩ := List.getLast?_eq_some_iff.mp h
  refine ⟨(hm m).mp (by simp), fun y hy => ?_⟩
  rw [List.pairwise_append] at hp
  rcases List.mem_append.mp ((hm y).mpr hy) with hy | hy
  · have := hp.2.2 y hy m (by simp)
    simpa using this
  · simp at hy
    subst hy
    have := (totalLe (α := α)).refl y
    simpa using this
end Sy
namespace Sy
open PySem PySem.Spec PyProof.Rows L2
/-- a law's promise, whatever the classes' addresses are, if two of them differ -/
def spAN (K : PySem.W.Frag) (i j : Nat) (g : (Nat → Addr) → FM) : Sp := fun vs H Q E => ∀ cs, cs i ≠ cs j → spF K 1 (g cs) vs H Q E
theorem tryO_other {i : Nat} {C D : Addr} {suite : Addr → Addr → SM} {ns : List Str} {ds : List DV} {s : Sl} (h : D ≠ C) : tryO i C [D] suite (.exc ⟨D, ns, ds⟩ s) = .exc ⟨D, ns, ds⟩ s := by
  unfold tryO
  simp [h]
theorem cls_ne {K : PySem.W.Frag} {C D : Addr} (h1 : PySem.W.subIn K (.ref C) (.ref C) = some true) (h2 : PySem.W.subIn K (.ref D) (.ref C) = some false) : C ≠ D := fun z => by
  rw [← z, h1] at h2
  cases h2
theorem cutL_m1 {α : Type} {xs : List α} : cutL xs none (some (-1)) = xs.dropLast := by
  unfold cutL
  have e1 : HT.sIx xs.length 0 none = 0 := rfl
  have e2 : HT.sIx xs.length xs.length (some (-1)) = xs.length - 1 := by
    show (if (-1 : Int) < 0 then ((-1 : Int) + (xs.length : Int)).toNat else min (-1 : Int).toNat xs.length) = _
    rw [if_pos (by omega)]
    omega
  rw [e1, e2, List.drop_zero, Nat.sub_zero, List.dropLast_eq_take]
end Sy
namespace Sy
open PySem PySem.Spec PyProof.Rows L2
/-! ### enumerate(x), x a text -/
/-- the signs of a text, each in a new pair with its place -/
def ItS (x : Str) : It :=
  ⟨fun i _ => i < x.cps.size, fun i H v H' => ∃ T c, v = .ref T ∧ H T = none ∧ H' = upd H T (.tup [.int (i : Nat), .str ⟨#[c]⟩]) ∧ x.cps[i]? = some c, fun i _ => x.cps.size ≤ i⟩
theorem turn_numS {P : Program} {w : World} {K : PySem.W.Frag} {elts : List Expr} {kk : Nat} {tpos : Pos} (x : Str) (t : Tok) (e it : Addr) (ty : String) (hty : ty = "str_ascii_iterator" ∨ ty = "str_iterator") :
    Turn P w K (.Tuple elts kk tpos) (ItS x) [e, it] e (fun i h => (∃ old, IsEnum h e it ((i : Nat) : Int) old) ∧ h.IsStrIter it ty x t i ∧ e ≠ it) where
  mem := by simp
  obj := fun i h st b hb => by
    obtain ⟨⟨old, he⟩, ⟨o, ho, hc, hd⟩, _⟩ := st
    rcases (by simpa using hb : b = e ∨ b = it) with z | z
    · subst z; exact ⟨_, he, fun v q => nomatch q⟩
    · subst z; exact ⟨o, ho, fun v q => by rw [hd] at q; cases q⟩
  keep := fun i h h' st k => let ⟨⟨old, he⟩, ⟨o, ho, r⟩, hne⟩ := st; ⟨⟨old, k e (by simp) _ he⟩, ⟨o, k it (by simp) o ho, r⟩, hne⟩
  item := by
    intro X hP hw hK hc i pins s σ H E I hf st hg
    subst hP hw hK
    obtain ⟨⟨old, he⟩, hit, hne⟩ := st
    have hel : e < s.heap.objs.size := Heap.lt_size he
    have hil : it < s.heap.objs.size := by obtain ⟨_, q, _⟩ := hit; exact Heap.lt_size q
    have D : Draws X.prog X.w X.A.in1 it [it] x.cps.size (fun i v => ∃ c u, x.cps[i]? = some c ∧ v = .str ⟨#[c]⟩ u) (fun i h => h.IsStrIter it ty x t i) := by
      rcases hty with q | q
      · rw [q]; exact Draws.strAscii (A := X.A.in1) (I.ok.hd hc) it x t
      · rw [q]; exact Draws.strWide (A := X.A.in1) (I.ok.hd hc) it x t
    refine wpAny_pyNext_enum_itemD D he hit hg hne (fun z => hne (by simpa using z)) fun v h' tk hv ho hit' hT hsz hk => ?_
    obtain ⟨c, u, hcx, rfl⟩ := hv
    refine ⟨_, rfl, wpAny_letOwnedTupleGo_enum (s := { s with heap := h', toks := tk + 1 }) ho fun h'' he' sb => ?_⟩
    have hT2 : h''.get? s.heap.objs.size = some { cls := .type "tuple", data := .seq #[.int i tk, .str ⟨#[c]⟩ u] } := (sb.2 _ (Nat.ne_of_gt hel)).trans hT
    have new : ObjOk X.prog X.w (upd H s.heap.objs.size (.tup [.int (i : Nat), .str ⟨#[c]⟩])) h'' s.heap.objs.size (.tup [.int (i : Nat), .str ⟨#[c]⟩]) :=
      ⟨by show 2 ≤ sizeLine; decide, [.int i tk, .str ⟨#[c]⟩ u], .cons ⟨_, rfl⟩ (.cons ⟨_, rfl⟩ .nil), ⟨_, hT2, rfl, _, rfl⟩⟩
    have I1 : Inv X pins σ (upd H s.heap.objs.size (.tup [.int (i : Nat), .str ⟨#[c]⟩])) { s with heap := h'', toks := tk + 1 } :=
      I.turnedNew (ch := [e, it]) (fun b ob hb q => (sb.2 b (fun z => hb (by simp [z]))).trans (hk b ob (fun z => hb (by simp [z])) (fun z => hb (by simp [z])) q)) hf (Nat.le_refl _) new
    refine ⟨.ref s.heap.objs.size, _, I1, rfl, ⟨_, c, rfl, I.hok.fresh (Nat.le_refl _), rfl, hcx⟩, ⟨⟨.str ⟨#[c]⟩ u, ?_⟩, ?_, hne⟩, fun b hb => ?_⟩
    · have e1 : ((i + 1 : Nat) : Int) = (i : Int) + 1 := by omega
      rw [e1]; exact he'
    · obtain ⟨o, ho', r⟩ := hit'
      exact ⟨o, (sb.2 it (Ne.symm hne)).trans ho', r⟩
    · have hb' : b < s.heap.objs.size := by
        rcases (by simpa using hb : b = e ∨ b = it) with z | z
        · subst z; exact hel
        · subst z; exact hil
      rw [upd_ne (Nat.ne_of_lt hb')]
      exact (hf b hb).1
  done := by
    intro X hP hw hK hc i pins s σ H E I hf st hg
    subst hP hw hK
    obtain ⟨⟨old, he⟩, hit, hne⟩ := st
    obtain ⟨f0, f1, f2, f3, f4, f5⟩ := hf it (by simp)
    have hx : x.cps[i]? = none := Array.getElem?_eq_none hg
    have D : Draws X.prog X.w X.A.in1 it [it] i (fun _ _ => True) (fun j h => i ≤ j ∧ h.IsStrIter it ty x t j) := by
      refine ⟨fun _ _ st => let ⟨_, o, ho, _⟩ := st; ⟨o, ho⟩, fun _ _ _ st hk => let ⟨h1, o, ho, r⟩ := st; ⟨h1, o, hk it (by simp) o ho, r⟩, fun j s Q E hj st hQ => absurd st.1 (by omega), fun s Q E st hE => ?_⟩
      rcases hty with q | q
      · subst q; exact wpAny_nextOf_ascii_end (I.ok.hd hc) st.2 hx hE
      · subst q; exact wpAny_nextOf_wide_end (I.ok.hd hc) st.2 hx hE
    exact wpAny_pyNext_enum_endD D he ⟨Nat.le_refl _, hit⟩ fun h' eb => ⟨rfl, I.turned (t' := s.toks) (fun b o hb q => eb b o (by simpa using hb) q) f0 f1 f3 f4 f5⟩
  self := fun A i s Q E st h => let ⟨⟨_, he⟩, _⟩ := st; wpAny_pyIter_enum he h
def iNumS (ta : TA) : TI := fun σ H R => ta σ H fun vs H1 => ∃ x, vs = [.str x] ∧ R (ItS x) H1
theorem iterType_or (x : Str) : strIterType x = "str_ascii_iterator" ∨ strIterType x = "str_iterator" := by
  unfold strIterType
  split
  · exact .inl rfl
  · exact .inr rfl
theorem pi_numS {X : Cx} {e : Expr} {ta : TA} {p pos tpos : Pos} {elts : List Expr} {kk : Nat} (hg : Gl X "enumerate") (hm : X.mg "enumerate" = none) (ha : PA X [e] ta) (hs : starEach [e] X.env = [(false, eval e X.env)] := by rfl) :
    PI X (.Tuple elts kk tpos) (.Call (.Name "enumerate" p) [e] [] pos) (iNumS ta) := by
  refine ⟨fun pins s σ H R I h => ?_⟩
  refine Call_ (ld_blt I hg hm boot_enumerate (PyProof.Rows.callWith_type1 (thn (ha.run pos pins s σ H _ I h) fun us s1 ⟨vs, H1, I1, r1, q1⟩ => ?_) hs rfl))
  obtain ⟨x, ex, q⟩ := q1
  subst ex
  cases r1 with
  | cons r rr =>
    cases rr
    obtain ⟨t, rfl⟩ := r
    refine call_enumerate_str fun h' he hit hsz hk => wpAny_pyIter_enum he ?_
    have I2 : Inv X pins σ H1 { s1 with heap := h' } := I1.kept (t' := s1.toks) hk
    refine ⟨s1.heap.objs.size + 1, [s1.heap.objs.size + 1, s1.heap.objs.size], _, _, H1, rfl, I2, turn_numS x t (s1.heap.objs.size + 1) s1.heap.objs.size _ (iterType_or x), ⟨⟨.none, he⟩, hit, Nat.succ_ne_self _⟩, fun b hb => ?_, q⟩
    have hle : s1.heap.objs.size ≤ b := by
      rcases (by simpa using hb : b = s1.heap.objs.size + 1 ∨ b = s1.heap.objs.size) with z | z
      · rw [z]; exact Nat.le_add_right _ _
      · rw [z]; exact Nat.le_refl _
    exact I1.fpOk hle (I1.hok.fresh hle)
def I.numS (as : AM) : IM := fun sl => (as sl).bind fun os sl => match settle os sl with
  | some ([.str x], sl) => .ok (numbered (chars x)) sl
  | _ => .stuck
theorem itok_numS {K : PySem.W.Frag} {G : Hp} {x : Str} : ItOk K G (numbered (chars x)) (ItS x) := fun i H P al s => by
  have hl : (numbered (chars x)).length = x.cps.size := by simp [numbered, chars]
  refine ⟨fun hi => ?_, fun hi => ?_⟩
  · rw [hl] at hi
    refine ⟨hi, fun y H' ⟨T, c, e0, nT, e1, hc⟩ => ?_⟩
    subst e0 e1
    have sm : Same H (upd H T (.tup [.int (i : Nat), .str ⟨#[c]⟩])) := fun b o e => by rw [upd_ne (ne_of_none e nT)]; exact e
    have np : ¬ P T := fun z => by
      obtain ⟨o, e⟩ := al T z
      rw [nT] at e; cases e
    refine ⟨sm, .tup [.int i, .str ⟨#[c]⟩], ?_, .tup (vs := [.int (i : Nat), .str ⟨#[c]⟩]) (hid_some.mpr ⟨np, upd_same⟩) (.cons (.int _) (.cons (.str _) .nil))⟩
    have hc' : x.cps[i] = c := by
      rw [Array.getElem?_eq_getElem hi] at hc
      exact Option.some.inj hc
    simp [numbered, chars, hi, hc']
  · rw [hl] at hi
    exact hi
theorem si_numS {X : Cx} {p pos : Pos} {e : Expr} {elts : List Expr} {kk : Nat} {tpos : Pos} {ms : AM} (hm : X.mg "enumerate" = none) (ha : SA X [e] ms) (hg : Gl X "enumerate" := by rfl) (hs : starEach [e] X.env = [(false, eval e X.env)] := by rfl) :
    SI X (.Tuple elts kk tpos) (.Call (.Name "enumerate" p) [e] [] pos) (I.numS ms) := (pi_numS hg hm ha hs).imp fun σ H R q => by
  obtain ⟨O, W, sl, ds, sl', x, e, q⟩ := tI_of q
  obtain ⟨os, s1, e1, e2⟩ := bind_ok e
  refine tAs_mk x e1 fun W1 F1 vs H1 t1 x1 r1 n1 => ?_
  cases e3 : settle os s1 with
  | none => rw [e3] at e2; cases e2
  | some pr =>
    obtain ⟨ws, s2⟩ := pr
    rw [e3] at e2
    match ws, e3, e2 with
    | [.str z], e3, e2 =>
      cases e2
      obtain ⟨W2, x2, rd, sh⟩ := settle_ok os s1 _ _ W1 F1 vs e3 x1 r1 n1
      cases rd with
      | cons rd r0 =>
        cases r0
        cases rd with
        | str => exact ⟨_, rfl, q W2 H1 _ (tr_shr t1.noF sh) x2 itok_numS⟩
/-! ### a, b = f(..), f may raise -/
def S.unpX (p : Pat) (m : EM) : SM := fun sl => match m sl with
  | .exc x s => .exc x s
  | _ => S.unp p (okE m) sl
theorem ss_unpX {X : Cx} {as : List Nat} {pos : Pos} {e tg : Expr} {ma : EM} {p : Pat} (he : SEX X e ma) (hg : SG X tg p as) (hs : swapsWithSole [tg] e pos.line X.env = pure false := by rfl) (hw : swappedStores [tg] e X.env = pure none := by rfl)
    (h1 : (assignEach [tg] X.env).map (·.2) = [assign tg X.env] := by rfl) : SS X (.Assign [tg] e pos) (S.unpX p ma) as := fun Wx tk => (ps_asg (he Wx tk) hg hs hw h1).imp fun D σ H q => by
  obtain ⟨O, W, sl, x, q⟩ := q
  unfold S.unpX at q
  have fin : PostS X.K Wx O W H σ as D (S.unp p (okE ma) sl) → tE X.K (okE ma) σ H fun v1 H1 => tG X.K p as v1 σ H1 D.nx := by
    intro q
    obtain ⟨o, s1, e1, q⟩ := post_ok q
    refine tE_mk x e1 fun W1 f1 v1 H1 t1 x1 r1 n1 => ?_
    cases es : settle1 o s1 with
    | none => rw [es] at q; exact q.elim
    | some y =>
      obtain ⟨d, s2⟩ := y
      rw [es] at q
      simp only at q
      cases eb : bindP p d s2 with
      | none => rw [eb] at q; exact q.elim
      | some s3 =>
        rw [eb] at q
        obtain ⟨W2, x2, rd, sh⟩ := settle1_ok x1 r1 n1 es
        exact ⟨O, W2, s2, d, s3, x2, rd, eb, fun W3 σ3 x3 sh3 a3 => q W3 σ3 H1 (tr_shr (tr_shr t1.noL sh) sh3) x3 a3⟩
  cases e : ma sl with
  | exc y s => rw [e] at q; exact excX x e q
  | ok o s => rw [e] at q; exact okE_X (fin q)
  | stuck => rw [e] at q; exact okE_X (fin q)
/-! ### a sign, few times -/
def rMulZ : R2 := fun x y H Q => ∃ (c k : Nat), x = .str ⟨#[c]⟩ ∧ y = .int (k : Int) ∧ k ≤ 100 ∧ Q (.str ⟨(List.replicate k c).toArray⟩) H
theorem op_mulZ {X : Cx} : OpR X (binaryOp .Mult) rMulZ := by
  intro pins s σ H x y v u Q I rx ry h
  obtain ⟨c, k, rfl, rfl, hk, q⟩ := h
  by_cases h2 : 2 ≤ k
  · exact op_mulS pins s σ H _ _ v u Q I rx ry ⟨c, k, rfl, rfl, h2, hk, q⟩
  · obtain ⟨t, rfl⟩ := rx
    obtain ⟨t', rfl⟩ := ry
    by_cases h0 : k = 0
    · subst h0
      refine PySem.P.mul_str_none (by decide) (by decide) ?_
      exact ⟨.str _, H, I.tok _, ⟨_, rfl⟩, q⟩
    · have h1 : k = 1 := by omega
      subst h1
      have b1 : (((1 : Nat) : Int) == 1 || (⟨#[c]⟩ : Str).length == 0) = true := rfl
      refine PySem.P.mul_str (by decide) (fun _ z => by rw [b1] at z; cases z) (fun _ z => by rw [b1] at z; cases z) ?_
      rw [if_neg (by decide), if_pos b1]
      exact ⟨.str _, H, I, ⟨_, rfl⟩, q⟩
def mulZ : DV → DV → Option MV
  | .str x, .int k => (sign1 x.cps.toList).bind fun c => if 0 ≤ k ∧ k ≤ 100 then some (.val (.str ⟨(List.replicate k.toNat c).toArray⟩)) else none
  | _, _ => none
theorem b_mulZ {K : PySem.W.Frag} : B2 K rMulZ mulZ := fun P H x y d e m Q h al rx ry q => by
  unfold mulZ at h
  split at h
  · rename_i a k
    cases e : sign1 a.cps.toList with
    | none => rw [e] at h; cases h
    | some c =>
      rw [e] at h
      simp only [Option.bind_some] at h
      split at h
      · rename_i hk
        cases h
        rw [rw_str rx, rw_int ry, sign1_of e]
        exact ⟨c, k.toNat, rfl, by congr 1; omega, by omega, new_str q⟩
      · cases h
  · cases h
end Sy
namespace Sy
open PySem PySem.Spec PyProof.Rows L2
/-! ### a text in a tuple of texts -/
def inT : DV → DV → Option MV
  | .str x, .tup ds => (strsOf ds).bind fun ns => bl (decide (x ∈ ns))
  | _, _ => none
def ninT : DV → DV → Option MV
  | .str x, .tup ds => (strsOf ds).bind fun ns => bl (!decide (x ∈ ns))
  | _, _ => none
theorem inV_strs (x : Str) : ∀ ns : List Str, inV (.str x) (ns.map V.str) = decide (x ∈ ns)
  | [] => rfl
  | n :: ns => by
    have ih := inV_strs x ns
    unfold inV at ih ⊢
    rw [List.map_cons, List.any_cons, ih]
    show ((n == x) || decide (x ∈ ns)) = _
    by_cases h : x = n
    · subst h; simp
    · have : ¬ n = x := fun e => h e.symm
      simp [h, this]
theorem flat_strs (ns : List Str) : (ns.map V.str).all flatV = true := by simp [flatV]
theorem b_inT {K : PySem.W.Frag} : B2 K (rIn K false) inT := fun P H x y d e m Q h al rx ry q => by
  unfold inT at h
  split at h
  · rename_i k es
    cases e : strsOf es with
    | none => rw [e] at h; cases h
    | some ns =>
      rw [e] at h
      cases h
      obtain ⟨p, vs, rfl, _, h1, r1⟩ := rw_tupP hid_same ry
      rw [strsOf_rds e r1] at h1
      rw [rw_str rx]
      refine ⟨p, _, rfl, .inr (SqT.of h1), rfl, flat_strs ns, ?_⟩
      rw [inV_strs]
      exact new_bl q
  · cases h
theorem b_ninT {K : PySem.W.Frag} : B2 K (rIn K true) ninT := fun P H x y d e m Q h al rx ry q => by
  unfold ninT at h
  split at h
  · rename_i k es
    cases e : strsOf es with
    | none => rw [e] at h; cases h
    | some ns =>
      rw [e] at h
      cases h
      obtain ⟨p, vs, rfl, _, h1, r1⟩ := rw_tupP hid_same ry
      rw [strsOf_rds e r1] at h1
      rw [rw_str rx]
      refine ⟨p, _, rfl, .inr (SqT.of h1), rfl, flat_strs ns, ?_⟩
      rw [inV_strs]
      exact new_bl q
  · cases h
theorem inT_tx {a : List Nat} {bs : List (List Nat)} : inT (.str (tx a)) (.tup (bs.map fun b => DV.str (tx b))) = bl (decide (a ∈ bs)) := by
  have e : (bs.map fun b => DV.str (tx b)) = (bs.map tx).map DV.str := by rw [List.map_map]; rfl
  show ((strsOf (bs.map fun b => DV.str (tx b))).bind fun ns => bl (decide (tx a ∈ ns))) = _
  rw [e, strsOf_map]
  show bl (decide (tx a ∈ bs.map tx)) = _
  congr 1
  refine decide_eq_decide.mpr ⟨fun h => ?_, fun h => List.mem_map.mpr ⟨a, h, rfl⟩⟩
  obtain ⟨b, hb, eb⟩ := List.mem_map.mp h
  rw [← tx_inj eb]
  exact hb
theorem ninT_tx {a : List Nat} {bs : List (List Nat)} : ninT (.str (tx a)) (.tup (bs.map fun b => DV.str (tx b))) = bl (!decide (a ∈ bs)) := by
  have e : (bs.map fun b => DV.str (tx b)) = (bs.map tx).map DV.str := by rw [List.map_map]; rfl
  show ((strsOf (bs.map fun b => DV.str (tx b))).bind fun ns => bl (!decide (tx a ∈ ns))) = _
  rw [e, strsOf_map]
  show bl (!decide (tx a ∈ bs.map tx)) = _
  congr 2
  refine decide_eq_decide.mpr ⟨fun h => ?_, fun h => List.mem_map.mpr ⟨a, h, rfl⟩⟩
  obtain ⟨b, hb, eb⟩ := List.mem_map.mp h
  rw [← tx_inj eb]
  exact hb
/-! ### running by simp -/
def Res.unpX (r : Res Op) (p : Pat) : SRes := match r with
  | .ok o sl => (match settle1 o sl with
    | some (d, sl) => (match bindP p d sl with
      | some sl => .nx sl
      | none => .stuck)
    | none => .stuck)
  | .exc x sl => .exc x sl
  | .stuck => .stuck
@[simp] theorem Res.unpX_tmp {m : MV} {sl : Sl} {p : Pat} : (Res.ok (.tmp m) sl).unpX p = (match bindP p m.view sl with | some sl => .nx sl | none => .stuck) := rfl
@[simp] theorem Res.unpX_exc {x : Exc} {sl : Sl} {p : Pat} : (Res.exc x sl : Res Op).unpX p = .exc x sl := rfl
@[simp] theorem S.unpX_eq {p : Pat} {m : EM} {sl : Sl} : S.unpX p m sl = (m sl).unpX p := by
  unfold S.unpX
  cases e : m sl with
  | ok o s =>
    have h : okE m sl = .ok o s := by unfold okE; rw [e]
    unfold S.unp
    rw [h]
    rfl
  | exc x s => rfl
  | stuck =>
    have h : okE m sl = .stuck := by unfold okE; rw [e]
    unfold S.unp
    rw [h]
    rfl
def numO : Option (List DV × Sl) → Res (List DV)
  | some ([.str x], sl) => .ok (numbered (chars x)) sl
  | _ => .stuck
@[simp] theorem numO_s {x : Str} {sl : Sl} : numO (some ([.str x], sl)) = .ok (numbered (chars x)) sl := rfl
def Res.numS (r : Res (List Op)) : Res (List DV) := match r with
  | .ok os sl => numO (settle os sl)
  | .exc x sl => .exc x sl
  | .stuck => .stuck
@[simp] theorem Res.numS_ok {os : List Op} {sl : Sl} : (Res.ok os sl).numS = numO (settle os sl) := rfl
@[simp] theorem I.numS_eq {as : AM} {sl : Sl} : I.numS as sl = (as sl).numS := by
  unfold I.numS Res.bind Res.numS
  cases as sl with
  | ok os s =>
    show (match settle os s with | some ([.str x], sl) => Res.ok (numbered (chars x)) sl | _ => .stuck) = _
    unfold numO
    rfl
  | _ => rfl
/-- the signs of a text with their places, from a place on -/
def nums : Nat → List Nat → List DV
  | _, [] => []
  | i, c :: l => .tup [.int i, .str (tx [c])] :: nums (i + 1) l
theorem nums_eq (l : List Nat) : numbered (chars (tx l)) = nums 0 l := by
  have h : ∀ (i : Nat) (l : List Nat), nums i l = (List.range l.length).map fun k => DV.tup [.int ((i + k : Nat) : Int), (l.map fun c => DV.str (tx [c])).getD k .non] := by
    intro i l
    induction l generalizing i with
    | nil => rfl
    | cons c l ih =>
      rw [nums, ih, List.length_cons, List.range_succ_eq_map, List.map_cons, List.map_map]
      congr 1
      refine List.map_congr_left fun k _ => ?_
      simp only [Function.comp]
      congr 3
      omega
  rw [h, chars_tx]
  unfold numbered
  rw [List.length_map]
  refine List.map_congr_left fun k _ => ?_
  rw [Nat.zero_add]
theorem mulZ_tx {c k : Nat} (h : k ≤ 100) : mulZ (.str (tx [c])) (.int (k : Int)) = some (.val (.str (tx (List.replicate k c)))) := by
  show (sign1 (tx [c]).cps.toList).bind (fun c => if 0 ≤ (k : Int) ∧ (k : Int) ≤ 100 then some (MV.val (.str ⟨(List.replicate ((k : Int)).toNat c).toArray⟩)) else none) = _
  rw [tx_list]
  show (if 0 ≤ (k : Int) ∧ (k : Int) ≤ 100 then some (MV.val (.str ⟨(List.replicate ((k : Int)).toNat c).toArray⟩)) else none) = _
  rw [if_pos ⟨by omega, by omega⟩]
  rfl
end Sy
namespace Cl
open PySem PySem.Spec PyProof.Rows L2 Sy
def topS (i : Nat) : Stmt := PySem.Challenge.pw_sixdot_k01_pieces_of_a_line.main.body.getD i (.Pass ⟨0, 0, 0, 0⟩)
abbrev s_law_draw : Stmt := topS 13
abbrev s_law_quoted : Stmt := topS 14
abbrev s_law_piece : Stmt := topS 17
abbrev s_law_state : Stmt := topS 12
abbrev s_TextError___init : Stmt := inClass (topS 2) 0
abbrev s_plain_end : Stmt := topS 9
abbrev s_quoted : Stmt := topS 8
abbrev s_is_sign : Stmt := topS 4
abbrev s_pieces : Stmt := topS 10
abbrev s_law_told : Stmt := topS 18
abbrev s_law : Stmt := topS 19
/-! ### the semantic functions -/
noncomputable def b_law_draw : SM := (S.seq (S.ife (T.and (T.val (E.bin gtD (E.bin ixD (E.var 0) (E.c (.int 4))) (E.c (.int 0)))) (T.val (E.bin gtD (E.bin ixD (E.var 0) (E.c (.int 2))) (E.c (.int 0))))) (S.seq (S.asg 2 (E.bin modD (E.app intD (A.cons (E.bin ixD (E.var 0) (E.c (.int 2))) A.nil)) (E.var 1)))
    (S.seq (S.seti 0 (E.c (.int 2)) (E.bin fdivD (E.bin ixD (E.var 0) (E.c (.int 2))) (E.var 1)))
    (S.seq (S.seti 0 (E.c (.int 4)) (E.bin subD (E.bin ixD (E.var 0) (E.c (.int 4))) (E.c (.int 1))))
    (S.ret 2 (E.var 2))))) S.nil)
    (S.seq (S.asg 3 (E.bin addD (E.bin ixD (E.var 0) (E.c (.int 3))) (E.bin mulD (E.c (.int 7919)) (E.bin ixD (E.var 0) (E.c (.int 1))))))
    (S.seq (S.ife (T.val (E.bin ltD (E.bin ixD (E.var 0) (E.c (.int 1))) (E.app lenD (A.cons (E.bin ixD (E.var 0) (E.c (.int 0))) A.nil)))) (S.asg 3 (E.bin ixD (E.bin ixD (E.var 0) (E.c (.int 0))) (E.bin ixD (E.var 0) (E.c (.int 1))))) S.nil)
    (S.seq (S.seti 0 (E.c (.int 1)) (E.bin addD (E.bin ixD (E.var 0) (E.c (.int 1))) (E.c (.int 1))))
    (S.seq (S.ife (T.val (E.bin geD (E.var 3) (E.bin powD (E.c (.int 10)) (E.c (.int 18))))) (S.seq (S.seti 0 (E.c (.int 2)) (E.bin fdivD (E.var 3) (E.var 1)))
    (S.seq (S.seti 0 (E.c (.int 4)) (E.c (.int 60)))
    (S.ret 2 (E.bin modD (E.app intD (A.cons (E.var 3) A.nil)) (E.var 1))))) S.nil)
    (S.seq (S.asg 4 (E.bin modD (E.app intD (A.cons (E.bin addD (E.bin addD (E.bin mulD (E.var 3) (E.c (.int 48271))) (E.bin mulD (E.bin ixD (E.var 0) (E.c (.int 1))) (E.c (.int 69621)))) (E.bin ixD (E.var 0) (E.c (.int 3)))) A.nil)) (E.c (.int 2147483647))))
    (S.seq (S.seti 0 (E.c (.int 3)) (E.bin modD (E.app intD (A.cons (E.bin addD (E.bin addD (E.bin mulD (E.var 4) (E.c (.int 16807))) (E.bin mulD (E.var 4) (E.var 4))) (E.c (.int 11))) A.nil)) (E.c (.int 2147483629))))
    (S.ret 2 (E.bin modD (E.app intD (A.cons (E.bin fdivD (E.bin ixD (E.var 0) (E.c (.int 3))) (E.c (.int 3))) A.nil)) (E.var 1))))))))))
noncomputable def r_law_draw : FM := fn 2 3 [2, 3, 4] b_law_draw
noncomputable def l_law_quoted_1 : SM := (S.seq (S.ife (T.or (T.val (E.bin eqD (E.var 2) (E.c (.str "\"")))) (T.val (E.bin eqD (E.var 2) (E.c (.str "\\"))))) (S.asg 1 (E.bin addD (E.var 1) (E.c (.str "\\")))) S.nil)
    (S.asg 1 (E.bin addD (E.var 1) (E.var 2))))
noncomputable def b_law_quoted : SM := (S.seq (S.asg 1 (E.c (.str "")))
    (S.seq (S.forr (I.str (E.var 0)) (.nm 2) l_law_quoted_1)
    (S.ret 1 (E.bin addD (E.bin addD (E.c (.str "\"")) (E.var 1)) (E.c (.str "\""))))))
noncomputable def r_law_quoted : FM := fn 1 2 [1, 2] b_law_quoted
noncomputable def l_law_piece_1 : SM := (S.asg 1 (E.bin addD (E.var 1) (E.bin ixD (E.c (.str "a \"\\=~")) (E.call 2 r_law_draw (A.cons (E.var 0) (A.cons (E.c (.int 6)) A.nil))))))
noncomputable def l_law_piece_2 : SM := (S.asg 1 (E.bin addD (E.var 1) (E.bin ixD (E.c (.str "a1-=\\^")) (E.call 2 r_law_draw (A.cons (E.var 0) (A.cons (E.c (.int 6)) A.nil))))))
noncomputable def b_law_piece : SM := (S.seq (S.asg 1 (E.c (.str "")))
    (S.seq (S.ife (T.val (E.bin eqD (E.call 2 r_law_draw (A.cons (E.var 0) (A.cons (E.c (.int 2)) A.nil))) (E.c (.int 0)))) (S.seq (S.forr (I.rng1 (A.cons (E.call 2 r_law_draw (A.cons (E.var 0) (A.cons (E.c (.int 5)) A.nil))) A.nil)) (.nm 2) l_law_piece_1)
    (S.ret 1 (E.tup (A.cons (E.c (.str "quoted")) (A.cons (E.var 1) (A.cons (E.call 1 r_law_quoted (A.cons (E.var 1) A.nil)) A.nil)))))) S.nil)
    (S.seq (S.forr (I.rng1 (A.cons (E.bin addD (E.c (.int 1)) (E.call 2 r_law_draw (A.cons (E.var 0) (A.cons (E.c (.int 4)) A.nil)))) A.nil)) (.nm 2) l_law_piece_2)
    (S.ret 1 (E.tup (A.cons (E.c (.str "plain")) (A.cons (E.var 1) (A.cons (E.var 1) A.nil))))))))
noncomputable def r_law_piece : FM := fn 1 2 [1, 2] b_law_piece
noncomputable def b_law_state : SM := (S.ret 1 (E.lst (A.cons (E.app listD (A.cons (E.var 0) A.nil)) (A.cons (E.c (.int 0)) (A.cons (E.c (.int 0)) (A.cons (E.c (.int 1)) (A.cons (E.c (.int 0)) A.nil)))))))
noncomputable def r_law_state : FM := fn 1 0 [] b_law_state
noncomputable def w_plain_end_1 : TM := (T.and (T.val (E.bin ltD (E.var 2) (E.app lenD (A.cons (E.var 0) A.nil)))) (T.val (E.bin ninT (E.bin ixD (E.var 0) (E.var 2)) (E.tup (A.cons (E.c (.str " ")) (A.cons (E.c (.str "\"")) A.nil))))))
noncomputable def l_plain_end_1 : SM := (S.aug 2 addI (E.c (.int 1)))
noncomputable def b_plain_end : SM := (S.seq (S.asg 2 (E.var 1))
    (S.seq (S.whl w_plain_end_1 l_plain_end_1)
    (S.ret 2 (E.var 2))))
noncomputable def r_plain_end : FM := fn 2 1 [2] b_plain_end
noncomputable def w_quoted_1 : TM := (T.and (T.val (E.bin ltD (E.var 4) (E.app lenD (A.cons (E.var 0) A.nil)))) (T.val (E.bin neD (E.bin ixD (E.var 0) (E.var 4)) (E.c (.str "\"")))))
noncomputable def l_quoted_1 (cs : Nat → Addr) : SM := (S.seq (S.ife (T.val (E.bin eqD (E.bin ixD (E.var 0) (E.var 4)) (E.c (.str "\\")))) (S.seq (S.aug 4 addI (E.c (.int 1)))
    (S.ife (T.and (T.val (E.bin ltD (E.var 4) (E.app lenD (A.cons (E.var 0) A.nil)))) (T.val (E.bin ninT (E.bin ixD (E.var 0) (E.var 4)) (E.tup (A.cons (E.c (.str "\"")) (A.cons (E.c (.str "\\")) A.nil)))))) (S.raise (cs 1) ["line", "column", "reason"] (A.cons (E.var 2) (A.cons (E.var 4) (A.cons (E.c (.str "quoted")) A.nil)))) S.nil)) S.nil)
    (S.seq (S.expr (E.mth appF 3 (A.cons (E.slc slD (E.var 0) (OP.some (E.var 4)) (OP.some (E.bin addD (E.var 4) (E.c (.int 1))))) A.nil)))
    (S.aug 4 addI (E.c (.int 1)))))
noncomputable def b_quoted (cs : Nat → Addr) : SM := (S.seq (S.asg 3 (E.lst A.nil))
    (S.seq (S.asg 4 (E.bin addD (E.var 1) (E.c (.int 1))))
    (S.seq (S.whl w_quoted_1 (l_quoted_1 cs))
    (S.seq (S.ife (T.val (E.bin geD (E.var 4) (E.app lenD (A.cons (E.var 0) A.nil)))) (S.raise (cs 1) ["line", "column", "reason"] (A.cons (E.var 2) (A.cons (E.bin addD (E.var 1) (E.c (.int 1))) (A.cons (E.c (.str "quoted")) A.nil)))) S.nil)
    (S.ret 3 (E.tup (A.cons (E.un (joinD "") (E.var 3)) (A.cons (E.bin addD (E.var 4) (E.c (.int 1))) A.nil))))))))
noncomputable def r_quoted (cs : Nat → Addr) : FM := fn 3 2 [3, 4] (b_quoted cs)
noncomputable def b_is_sign : SM := (S.ret 1 (E.chain leD leD (E.c (.str " ")) (E.var 0) (E.c (.str "~"))))
noncomputable def r_is_sign : FM := fn 1 0 [] b_is_sign
noncomputable def l_pieces_1 (cs : Nat → Addr) : SM := (S.ife (T.not (T.tru (E.call 1 r_is_sign (A.cons (E.var 3) A.nil)))) (S.raise (cs 1) ["line", "column", "reason"] (A.cons (E.var 1) (A.cons (E.bin addD (E.var 2) (E.c (.int 1))) (A.cons (E.c (.str "sign")) A.nil)))) S.nil)
noncomputable def w_pieces_1 : TM := (T.val (E.bin ltD (E.var 2) (E.app lenD (A.cons (E.var 0) A.nil))))
noncomputable def l_pieces_2 (cs : Nat → Addr) : SM := (S.ife (T.val (E.bin eqD (E.bin ixD (E.var 0) (E.var 2)) (E.c (.str " ")))) (S.aug 2 addI (E.c (.int 1))) (S.ife (T.val (E.bin eqD (E.bin ixD (E.var 0) (E.var 2)) (E.c (.str "\"")))) (S.seq (S.unpX (.tp [(.nm 5), (.nm 6)]) (E.callX 3 (r_quoted cs) (A.cons (E.var 0) (A.cons (E.var 2) (A.cons (E.var 1) A.nil)))))
    (S.seq (S.expr (E.mth appF 4 (A.cons (E.tup (A.cons (E.c (.str "quoted")) (A.cons (E.var 5) (A.cons (E.bin addD (E.var 2) (E.c (.int 1))) A.nil)))) A.nil)))
    (S.asg 2 (E.var 6)))) (S.seq (S.asg 6 (E.call 2 r_plain_end (A.cons (E.var 0) (A.cons (E.var 2) A.nil))))
    (S.seq (S.expr (E.mth appF 4 (A.cons (E.tup (A.cons (E.c (.str "plain")) (A.cons (E.slc slD (E.var 0) (OP.some (E.var 2)) (OP.some (E.var 6))) (A.cons (E.bin addD (E.var 2) (E.c (.int 1))) A.nil)))) A.nil)))
    (S.asg 2 (E.var 6))))))
noncomputable def b_pieces (cs : Nat → Addr) : SM := (S.seq (S.forr (I.numS (A.cons (E.var 0) A.nil)) (.tp [(.nm 2), (.nm 3)]) (l_pieces_1 cs))
    (S.seq (S.asg 4 (E.lst A.nil))
    (S.seq (S.asg 2 (E.c (.int 0)))
    (S.seq (S.whl w_pieces_1 (l_pieces_2 cs))
    (S.ret 2 (E.var 4))))))
noncomputable def r_pieces (cs : Nat → Addr) : FM := fn 2 5 [2, 3, 4, 5, 6] (b_pieces cs)
noncomputable def b_law_told (cs : Nat → Addr) : SM := (S.tryAs 2 (cs 1) [] (S.retX 2 (E.callX 2 (r_pieces cs) (A.cons (E.var 0) (A.cons (E.var 1) A.nil)))) (fun a d => (S.ret 2 (E.tup (A.cons (E.exf a d "line" 2) (A.cons (E.exf a d "column" 2) (A.cons (E.exf a d "reason" 2) A.nil)))))))
noncomputable def r_law_told (cs : Nat → Addr) : FM := fn 2 1 [2] (b_law_told cs)
noncomputable def l_law_1 : SM := (S.seq (S.unp (.tp [(.nm 7), (.nm 8), (.nm 9)]) (E.call 1 r_law_piece (A.cons (E.var 1) A.nil)))
    (S.seq (S.asg 10 (E.call 2 r_law_draw (A.cons (E.var 1) (A.cons (E.c (.int 3)) A.nil))))
    (S.seq (S.ife (T.and (T.val (E.bin eqD (E.var 10) (E.c (.int 0)))) (T.and (T.val (E.bin eqD (E.var 7) (E.c (.str "plain")))) (T.val (E.bin eqD (E.var 5) (E.c (.str "plain")))))) (S.asg 10 (E.c (.int 1))) S.nil)
    (S.seq (S.asg 3 (E.bin addD (E.var 3) (E.bin mulZ (E.c (.str " ")) (E.var 10))))
    (S.seq (S.expr (E.mth appF 4 (A.cons (E.tup (A.cons (E.var 7) (A.cons (E.var 8) (A.cons (E.bin addD (E.app lenD (A.cons (E.var 3) A.nil)) (E.c (.int 1))) A.nil)))) A.nil)))
    (S.seq (S.asg 3 (E.bin addD (E.var 3) (E.var 9)))
    (S.asg 5 (E.var 7))))))))
noncomputable def b_law (cs : Nat → Addr) : SM := (S.seq (S.asg 1 (E.call 1 r_law_state (A.cons (E.var 0) A.nil)))
    (S.seq (S.asg 2 (E.bin addD (E.c (.int 1)) (E.call 2 r_law_draw (A.cons (E.var 1) (A.cons (E.c (.int 90)) A.nil)))))
    (S.seq (S.asg 3 (E.bin mulZ (E.c (.str " ")) (E.call 2 r_law_draw (A.cons (E.var 1) (A.cons (E.c (.int 2)) A.nil)))))
    (S.seq (S.asg 4 (E.lst A.nil))
    (S.seq (S.asg 5 (E.c (.str "")))
    (S.seq (S.forr (I.rng1 (A.cons (E.call 2 r_law_draw (A.cons (E.var 1) (A.cons (E.c (.int 8)) A.nil))) A.nil)) (.nm 6) l_law_1)
    (S.seq (S.ife (T.val (E.bin neD (E.call 2 (r_law_told cs) (A.cons (E.var 3) (A.cons (E.var 2) A.nil))) (E.var 4))) (S.ret 1 (E.c (.bl false))) S.nil)
    (S.seq (S.asg 11 (E.call 2 r_law_draw (A.cons (E.var 1) (A.cons (E.c (.int 4)) A.nil))))
    (S.seq (S.ife (T.val (E.bin eqD (E.var 11) (E.c (.int 0)))) (S.seq (S.asg 12 (E.call 2 r_law_draw (A.cons (E.var 1) (A.cons (E.bin addD (E.app lenD (A.cons (E.var 3) A.nil)) (E.c (.int 1))) A.nil))))
    (S.seq (S.asg 13 (E.bin ixD (E.lst (A.cons (E.c (.str "\t")) (A.cons (E.c (.str "\t ")) (A.cons (E.c (.str "\t\"")) A.nil)))) (E.call 2 r_law_draw (A.cons (E.var 1) (A.cons (E.c (.int 3)) A.nil)))))
    (S.ret 1 (E.bin eqD (E.call 2 (r_law_told cs) (A.cons (E.bin addD (E.bin addD (E.slc slD (E.var 3) OP.none (OP.some (E.var 12))) (E.var 13)) (E.slc slD (E.var 3) (OP.some (E.var 12)) OP.none)) (A.cons (E.var 2) A.nil))) (E.tup (A.cons (E.var 2) (A.cons (E.bin addD (E.var 12) (E.c (.int 1))) (A.cons (E.c (.str "sign")) A.nil)))))))) S.nil)
    (S.seq (S.ife (T.val (E.bin eqD (E.var 11) (E.c (.int 1)))) (S.ret 1 (E.bin eqD (E.call 2 (r_law_told cs) (A.cons (E.bin addD (E.var 3) (E.c (.str " \"ab\\cd\""))) (A.cons (E.var 2) A.nil))) (E.tup (A.cons (E.var 2) (A.cons (E.bin addD (E.app lenD (A.cons (E.var 3) A.nil)) (E.c (.int 5))) (A.cons (E.c (.str "quoted")) A.nil)))))) S.nil)
    (S.seq (S.ife (T.val (E.bin eqD (E.var 11) (E.c (.int 2)))) (S.seq (S.asg 14 (E.bin ixD (E.lst (A.cons (E.c (.str "ab")) (A.cons (E.c (.str "")) (A.cons (E.c (.str "a\\\"")) (A.cons (E.c (.str "a\\")) (A.cons (E.c (.str "\\\\")) A.nil)))))) (E.call 2 r_law_draw (A.cons (E.var 1) (A.cons (E.c (.int 5)) A.nil)))))
    (S.ret 1 (E.bin eqD (E.call 2 (r_law_told cs) (A.cons (E.bin addD (E.bin addD (E.var 3) (E.c (.str " \""))) (E.var 14)) (A.cons (E.var 2) A.nil))) (E.tup (A.cons (E.var 2) (A.cons (E.bin addD (E.app lenD (A.cons (E.var 3) A.nil)) (E.c (.int 2))) (A.cons (E.c (.str "quoted")) A.nil))))))) S.nil)
    (S.ret 1 (E.and (E.bin eqD (E.call 2 (r_law_told cs) (A.cons (E.c (.str "")) (A.cons (E.var 2) A.nil))) (E.lst A.nil)) (E.bin eqD (E.call 2 (r_law_told cs) (A.cons (E.c (.str "   ")) (A.cons (E.var 2) A.nil))) (E.lst A.nil)))))))))))))))
noncomputable def r_law (cs : Nat → Addr) : FM := fn 1 14 [1, 2, 3, 4, 5, 6, 7, 8, 9, 10, 11, 12, 13, 14] (b_law cs)
end Cl

namespace Cl
open PySem PySem.Spec PyProof.Rows L2 Sy
/-! ### what the top has written -/
structure Tx (K : PySem.W.Frag) (mg : Str → Option Value) (cs : Nat → Addr) where
  g_TextError : mg "TextError" = some (.ref (cs 1))
  ox_TextError : OexC K (cs 1)
  xf_TextError : XfC K (cs 1)
  te_TextError : PySem.W.exmOne K (.ref (cs 1)) (.ref (cs 1)) = some true
  nx_TextError_line : PySem.W.findIn K (.ref (cs 1)) "line" = some none
  nx_TextError_column : PySem.W.findIn K (.ref (cs 1)) "column" = some none
  nx_TextError_reason : PySem.W.findIn K (.ref (cs 1)) "reason" = some none
  z_enumerate : mg "enumerate" = none
  z_int : mg "int" = none
  z_len : mg "len" = none
  z_list : mg "list" = none
  z_range : mg "range" = none
  z_str : mg "str" = none
  u_BACKSLASH : Value
  v_BACKSLASH : mg "BACKSLASH" = some u_BACKSLASH
  r_BACKSLASH : RelV (.str "\\") u_BACKSLASH
  u_QUOTE : Value
  v_QUOTE : mg "QUOTE" = some u_QUOTE
  r_QUOTE : RelV (.str "\"") u_QUOTE
  f_law_draw : Addr
  fd_law_draw : FuncData
  F_law_draw : Fun K "_law_draw" "_law_draw" s_law_draw f_law_draw fd_law_draw
  b_law_draw : Binds K fd_law_draw ["_law_state_here", "_law_many"] []
  g_law_draw : mg "_law_draw" = some (.ref f_law_draw)
  f_law_quoted : Addr
  fd_law_quoted : FuncData
  F_law_quoted : Fun K "_law_quoted" "_law_quoted" s_law_quoted f_law_quoted fd_law_quoted
  b_law_quoted : Binds K fd_law_quoted ["_law_text"] []
  g_law_quoted : mg "_law_quoted" = some (.ref f_law_quoted)
  f_law_piece : Addr
  fd_law_piece : FuncData
  F_law_piece : Fun K "_law_piece" "_law_piece" s_law_piece f_law_piece fd_law_piece
  b_law_piece : Binds K fd_law_piece ["_law_state_here"] []
  g_law_piece : mg "_law_piece" = some (.ref f_law_piece)
  f_law_state : Addr
  fd_law_state : FuncData
  F_law_state : Fun K "_law_state" "_law_state" s_law_state f_law_state fd_law_state
  b_law_state : Binds K fd_law_state ["_law_script"] []
  g_law_state : mg "_law_state" = some (.ref f_law_state)
  f_TextError___init : Addr
  fd_TextError___init : FuncData
  F_TextError___init : Fun K "__init__" "TextError.__init__" s_TextError___init f_TextError___init fd_TextError___init
  b_TextError___init : Binds K fd_TextError___init ["self", "line", "column", "reason"] []
  ic_TextError : PySem.W.findIn K (.ref (cs 1)) "__init__" = some (some (.ref f_TextError___init))
  ti_TextError : PySem.W.typeIn K (.ref f_TextError___init) = some (.type "function")
  f_plain_end : Addr
  fd_plain_end : FuncData
  F_plain_end : Fun K "_plain_end" "_plain_end" s_plain_end f_plain_end fd_plain_end
  b_plain_end : Binds K fd_plain_end ["line", "at"] []
  g_plain_end : mg "_plain_end" = some (.ref f_plain_end)
  f_quoted : Addr
  fd_quoted : FuncData
  F_quoted : Fun K "_quoted" "_quoted" s_quoted f_quoted fd_quoted
  b_quoted : Binds K fd_quoted ["line", "at", "number"] []
  g_quoted : mg "_quoted" = some (.ref f_quoted)
  f_is_sign : Addr
  fd_is_sign : FuncData
  F_is_sign : Fun K "is_sign" "is_sign" s_is_sign f_is_sign fd_is_sign
  b_is_sign : Binds K fd_is_sign ["char"] []
  g_is_sign : mg "is_sign" = some (.ref f_is_sign)
  f_pieces : Addr
  fd_pieces : FuncData
  F_pieces : Fun K "pieces" "pieces" s_pieces f_pieces fd_pieces
  b_pieces : Binds K fd_pieces ["line", "number"] []
  g_pieces : mg "pieces" = some (.ref f_pieces)
  f_law_told : Addr
  fd_law_told : FuncData
  F_law_told : Fun K "_law_told" "_law_told" s_law_told f_law_told fd_law_told
  b_law_told : Binds K fd_law_told ["_law_line", "_law_number"] []
  g_law_told : mg "_law_told" = some (.ref f_law_told)
  f_law : Addr
  fd_law : FuncData
  F_law : Fun K "law" "law" s_law f_law fd_law
  b_law : Binds K fd_law ["_law_script"] []
  g_law : mg "law" = some (.ref f_law)
section
variable {P : Program} {w : World} {K : PySem.W.Frag} {mg : Str → Option Value} {base : Heap} {cs : Nat → Addr}
theorem sc_law_draw : FnScope ["_law_state_here", "_law_many", "_law_value", "_law_cell_here", "_law_first"] ["_law_state_here", "_law_many"] (defScope s_law_draw) := ⟨rfl, rfl, rfl, by decide +kernel, rfl, by decide +kernel, by decide +kernel⟩
theorem ok_law_draw (T : Tx K mg cs) : FnOk P w K mg base CX0 1 T.f_law_draw T.fd_law_draw ["_law_state_here", "_law_many"] (spF K 2 r_law_draw) := by
  have sc := sc_law_draw
  refine ok_fn (n := 2) (k := 3) (as := [2, 3, 4]) (lv := 0) (b := b_law_draw) T.F_law_draw sc rfl rfl fun X cdv A outer s H EE eX hr => ?_
  subst eX
  exact (ss_cons (ss_if (st_w (sw_and (st_cmp op_gtU b_gt (se_ix ix_seq b_ix (se_var 0) se_int) se_int) (sw_and1 (st_cmp op_gtU b_gt (se_ix ix_seq b_ix (se_var 0) se_int) se_int)))) (ss_cons (ss_asg sc.nd (se_bin op_modN b_mod (se_callTy T.z_int call_int1 b_int (sa_cons (se_ix ix_seq b_ix (se_var 0) se_int) sa_nil)) (se_var 1)))
    (ss_cons (ss_seti 0 (se_bin op_fdivN b_fdiv (se_ix ix_seq b_ix (se_var 0) se_int) (se_var 1)) se_int)
    (ss_cons (ss_seti 0 (se_bin op_sub b_sub (se_ix ix_seq b_ix (se_var 0) se_int) se_int) se_int)
    (ss_one (ss_ret 2 (se_var 2)))))) ss_nil)
    (ss_cons (ss_asg sc.nd (se_bin op_addU b_add (se_ix ix_seq b_ix (se_var 0) se_int) (se_bin op_mulU b_mul se_int (se_ix ix_seq b_ix (se_var 0) se_int))))
    (ss_cons (ss_if (st_cmp (op_ltU hr.units0) b_lt (se_ix ix_seq b_ix (se_var 0) se_int) (se_callB T.z_len call_lenU b_len (sa_cons (se_ix ix_seq b_ix (se_var 0) se_int) sa_nil))) (ss_one (ss_asg sc.nd (se_ix ix_seq b_ix (se_ix ix_seq b_ix (se_var 0) se_int) (se_ix ix_seq b_ix (se_var 0) se_int)))) ss_nil)
    (ss_cons (ss_seti 0 (se_bin op_addU b_add (se_ix ix_seq b_ix (se_var 0) se_int) se_int) se_int)
    (ss_cons (ss_if (st_cmp op_geU b_ge (se_var 3) (se_bin op_pow b_pow se_int se_int)) (ss_cons (ss_seti 0 (se_bin op_fdivN b_fdiv (se_var 3) (se_var 1)) se_int)
    (ss_cons (ss_seti 0 se_int se_int)
    (ss_one (ss_ret 2 (se_bin op_modN b_mod (se_callTy T.z_int call_int1 b_int (sa_cons (se_var 3) sa_nil)) (se_var 1)))))) ss_nil)
    (ss_cons (ss_asg sc.nd (se_bin op_modN b_mod (se_callTy T.z_int call_int1 b_int (sa_cons (se_bin op_addU b_add (se_bin op_addU b_add (se_bin op_mulU b_mul (se_var 3) se_int) (se_bin op_mulU b_mul (se_ix ix_seq b_ix (se_var 0) se_int) se_int)) (se_ix ix_seq b_ix (se_var 0) se_int)) sa_nil)) se_int))
    (ss_cons (ss_seti 0 (se_bin op_modN b_mod (se_callTy T.z_int call_int1 b_int (sa_cons (se_bin op_addU b_add (se_bin op_addU b_add (se_bin op_mulU b_mul (se_var 4) se_int) (se_bin op_mulU b_mul (se_var 4) (se_var 4))) se_int) sa_nil)) se_int) se_int)
    (ss_one (ss_ret 2 (se_bin op_modN b_mod (se_callTy T.z_int call_int1 b_int (sa_cons (se_bin op_fdivN b_fdiv (se_ix ix_seq b_ix (se_var 0) se_int) se_int) sa_nil)) (se_var 1)))))))))))
theorem sc_law_quoted : FnScope ["_law_text", "_law_inner", "_law_char"] ["_law_text"] (defScope s_law_quoted) := ⟨rfl, rfl, rfl, by decide +kernel, rfl, by decide +kernel, by decide +kernel⟩
theorem ok_law_quoted (T : Tx K mg cs) : FnOk P w K mg base CX0 1 T.f_law_quoted T.fd_law_quoted ["_law_text"] (spF K 1 r_law_quoted) := by
  have sc := sc_law_quoted
  refine ok_fn (n := 1) (k := 2) (as := [1, 2]) (lv := 0) (b := b_law_quoted) T.F_law_quoted sc rfl rfl fun X cdv A outer s H EE eX hr => ?_
  subst eX
  exact (ss_cons (ss_asg sc.nd se_str)
    (ss_cons (ss_for PassesOwn.never rfl (si_str (se_var 0)) (sg_nm 2 sc.nd) (ss_cons (ss_if (st_w (sw_or (st_cmp (op_eqD hr.units) b_eq (se_var 2) se_str) (sw_or1 (st_cmp (op_eqD hr.units) b_eq (se_var 2) se_str)))) (ss_one (ss_asg sc.nd (se_bin op_addU b_add (se_var 1) se_str))) ss_nil)
    (ss_one (ss_asg sc.nd (se_bin op_addU b_add (se_var 1) (se_var 2))))))
    (ss_one (ss_ret 1 (se_bin op_addU b_add (se_bin op_addU b_add se_str (se_var 1)) se_str)))))
theorem sc_law_piece : FnScope ["_law_state_here", "_law_text", "_law_turn"] ["_law_state_here"] (defScope s_law_piece) := ⟨rfl, rfl, rfl, by decide +kernel, rfl, by decide +kernel, by decide +kernel⟩
theorem ok_law_piece (T : Tx K mg cs) : FnOk P w K mg base CX0 2 T.f_law_piece T.fd_law_piece ["_law_state_here"] (spF K 1 r_law_piece) := by
  have sc := sc_law_piece
  refine ok_fn (n := 1) (k := 2) (as := [1, 2]) (lv := 1) (b := b_law_piece) T.F_law_piece sc rfl rfl fun X cdv A outer s H EE eX hr => ?_
  subst eX
  exact (ss_cons (ss_asg sc.nd se_str)
    (ss_cons (ss_if (st_cmp (op_eqD hr.units) b_eq (se_call (ok_law_draw T) (hr.mono (by omega)) T.g_law_draw T.F_law_draw.kp T.b_law_draw pass0 (sa_cons (se_var 0) (sa_cons se_int sa_nil))) se_int) (ss_cons (ss_for PassesOwn.never rfl (si_rng1 T.z_range (sa_cons (se_call (ok_law_draw T) (hr.mono (by omega)) T.g_law_draw T.F_law_draw.kp T.b_law_draw pass0 (sa_cons (se_var 0) (sa_cons se_int sa_nil))) sa_nil)) (sg_nm 2 sc.nd) (ss_one (ss_asg sc.nd (se_bin op_addU b_add (se_var 1) (se_ix ix_seq b_ix se_str (se_call (ok_law_draw T) (hr.mono (by omega)) T.g_law_draw T.F_law_draw.kp T.b_law_draw pass0 (sa_cons (se_var 0) (sa_cons se_int sa_nil))))))))
    (ss_one (ss_ret 1 (se_tup (sa_cons se_str (sa_cons (se_var 1) (sa_cons (se_call (ok_law_quoted T) (hr.mono (by omega)) T.g_law_quoted T.F_law_quoted.kp T.b_law_quoted pass0 (sa_cons (se_var 1) sa_nil)) sa_nil))))))) ss_nil)
    (ss_cons (ss_for PassesOwn.never rfl (si_rng1 T.z_range (sa_cons (se_bin op_addU b_add se_int (se_call (ok_law_draw T) (hr.mono (by omega)) T.g_law_draw T.F_law_draw.kp T.b_law_draw pass0 (sa_cons (se_var 0) (sa_cons se_int sa_nil)))) sa_nil)) (sg_nm 2 sc.nd) (ss_one (ss_asg sc.nd (se_bin op_addU b_add (se_var 1) (se_ix ix_seq b_ix se_str (se_call (ok_law_draw T) (hr.mono (by omega)) T.g_law_draw T.F_law_draw.kp T.b_law_draw pass0 (sa_cons (se_var 0) (sa_cons se_int sa_nil))))))))
    (ss_one (ss_ret 1 (se_tup (sa_cons se_str (sa_cons (se_var 1) (sa_cons (se_var 1) sa_nil)))))))))
theorem sc_law_state : FnScope ["_law_script"] ["_law_script"] (defScope s_law_state) := ⟨rfl, rfl, rfl, by decide +kernel, rfl, by decide +kernel, by decide +kernel⟩
theorem ok_law_state (T : Tx K mg cs) : FnOk P w K mg base CX0 1 T.f_law_state T.fd_law_state ["_law_script"] (spF K 1 r_law_state) := by
  have sc := sc_law_state
  refine ok_fn (n := 1) (k := 0) (as := []) (lv := 0) (b := b_law_state) T.F_law_state sc rfl rfl fun X cdv A outer s H EE eX hr => ?_
  subst eX
  exact (ss_one (ss_ret 1 (se_lst (sa_cons (se_callTy T.z_list call_list_of b_list (sa_cons (se_var 0) sa_nil)) (sa_cons se_int (sa_cons se_int (sa_cons se_int (sa_cons se_int sa_nil))))))))
theorem sc_TextError___init : FnScope ["self", "line", "column", "reason"] ["self", "line", "column", "reason"] (defScope s_TextError___init) := ⟨rfl, rfl, rfl, by decide +kernel, rfl, by decide +kernel, by decide +kernel⟩
theorem ok_TextError___init (T : Tx K mg cs) : FnOk P w K mg base CX0 1 T.f_TextError___init T.fd_TextError___init ["self", "line", "column", "reason"] (spI (cs 1) ["line", "column", "reason"]) := by
  have sc := sc_TextError___init
  exact T.F_TextError___init.ok sc (fun vs H Q E h => spI_len h) (fun cdv A outer s H vs Q E hr h => ⟨_, pss_cons (ps_ost (pv 0) (pv 1)) (pss_cons (ps_ost (pv 0) (pv 2)) (pss_one (ps_ost (pv 0) (pv 3)))), spI_3 T.ox_TextError T.nx_TextError_line T.nx_TextError_column T.nx_TextError_reason h⟩)
theorem sc_plain_end : FnScope ["line", "at", "end"] ["line", "at"] (defScope s_plain_end) := ⟨rfl, rfl, rfl, by decide +kernel, rfl, by decide +kernel, by decide +kernel⟩
theorem ok_plain_end (T : Tx K mg cs) : FnOk P w K mg base CX0 1 T.f_plain_end T.fd_plain_end ["line", "at"] (spF K 2 r_plain_end) := by
  have sc := sc_plain_end
  refine ok_fn (n := 2) (k := 1) (as := [2]) (lv := 0) (b := b_plain_end) T.F_plain_end sc rfl rfl fun X cdv A outer s H EE eX hr => ?_
  subst eX
  exact (ss_cons (ss_asg sc.nd (se_var 1))
    (ss_cons (ss_while PassesOwn.never (st_w (sw_and (st_cmp (op_ltU hr.units0) b_lt (se_var 2) (se_callB T.z_len call_lenU b_len (sa_cons (se_var 0) sa_nil))) (sw_and1 (st_cmp op_notIn_seq b_ninT (se_ix ix_seq b_ix (se_var 0) (se_var 2)) (se_tup (sa_cons se_str (sa_cons (se_glob T.v_QUOTE T.r_QUOTE (fun _ => .str _)) sa_nil))))))) (ss_one (ss_aug sc.nd ip_add b_addI se_int)))
    (ss_one (ss_ret 2 (se_var 2)))))
theorem sc_quoted : FnScope ["line", "at", "number", "chars", "place"] ["line", "at", "number"] (defScope s_quoted) := ⟨rfl, rfl, rfl, by decide +kernel, rfl, by decide +kernel, by decide +kernel⟩
theorem ok_quoted (T : Tx K mg cs) : FnOk P w K mg base (L2.CX P w) 3 T.f_quoted T.fd_quoted ["line", "at", "number"] (spX K 3 (r_quoted cs)) := by
  have sc := sc_quoted
  refine ok_fnX (n := 3) (k := 2) (as := [3, 4]) (lv := 2) (b := b_quoted cs) T.F_quoted sc rfl rfl fun X cdv A outer s H EE eX hr => ?_
  subst eX
  exact (ss_cons (ss_asg sc.nd (se_lst sa_nil))
    (ss_cons (ss_asg sc.nd (se_bin op_addU b_add (se_var 1) se_int))
    (ss_cons (ss_while (passes_of rfl) (st_w (sw_and (st_cmp (op_ltU hr.units0) b_lt (se_var 4) (se_callB T.z_len call_lenU b_len (sa_cons (se_var 0) sa_nil))) (sw_and1 (st_cmp (op_neD hr.units) b_ne (se_ix ix_seq b_ix (se_var 0) (se_var 4)) (se_glob T.v_QUOTE T.r_QUOTE (fun _ => .str _)))))) (ss_cons (ss_if (st_cmp (op_eqD hr.units) b_eq (se_ix ix_seq b_ix (se_var 0) (se_var 4)) (se_glob T.v_BACKSLASH T.r_BACKSLASH (fun _ => .str _))) (ss_cons (ss_aug sc.nd ip_add b_addI se_int)
    (ss_one (ss_if (st_w (sw_and (st_cmp (op_ltU hr.units0) b_lt (se_var 4) (se_callB T.z_len call_lenU b_len (sa_cons (se_var 0) sa_nil))) (sw_and1 (st_cmp op_notIn_seq b_ninT (se_ix ix_seq b_ix (se_var 0) (se_var 4)) (se_tup (sa_cons (se_glob T.v_QUOTE T.r_QUOTE (fun _ => .str _)) (sa_cons (se_glob T.v_BACKSLASH T.r_BACKSLASH (fun _ => .str _)) sa_nil))))))) (ss_one (ss_raise rfl T.ox_TextError T.ic_TextError T.ti_TextError (ok_TextError___init T) (hr.mono (by omega)) T.b_TextError___init T.g_TextError (sa_cons (se_var 2) (sa_cons (se_var 4) (sa_cons se_str sa_nil))))) ss_nil))) ss_nil)
    (ss_cons (ss_expr (se_mth 3 PySem.F.slot_list_append PySem.F.type_list_append mt_append bm_append (sa_cons (se_slc sl_U b_sl (se_var 0) (so_some (se_var 4)) (so_some (se_bin op_addU b_add (se_var 4) se_int))) sa_nil)))
    (ss_one (ss_aug sc.nd ip_add b_addI se_int)))))
    (ss_cons (ss_if (st_cmp op_geU b_ge (se_var 4) (se_callB T.z_len call_lenU b_len (sa_cons (se_var 0) sa_nil))) (ss_one (ss_raise rfl T.ox_TextError T.ic_TextError T.ti_TextError (ok_TextError___init T) (hr.mono (by omega)) T.b_TextError___init T.g_TextError (sa_cons (se_var 2) (sa_cons (se_bin op_addU b_add (se_var 1) se_int) (sa_cons se_str sa_nil))))) ss_nil)
    (ss_one (ss_ret 3 (se_tup (sa_cons (se_join (se_var 3)) (sa_cons (se_bin op_addU b_add (se_var 4) se_int) sa_nil)))))))))
theorem sc_is_sign : FnScope ["char"] ["char"] (defScope s_is_sign) := ⟨rfl, rfl, rfl, by decide +kernel, rfl, by decide +kernel, by decide +kernel⟩
theorem ok_is_sign (T : Tx K mg cs) : FnOk P w K mg base CX0 1 T.f_is_sign T.fd_is_sign ["char"] (spF K 1 r_is_sign) := by
  have sc := sc_is_sign
  refine ok_fn (n := 1) (k := 0) (as := []) (lv := 0) (b := b_is_sign) T.F_is_sign sc rfl rfl fun X cdv A outer s H EE eX hr => ?_
  subst eX
  exact (ss_one (ss_ret 1 (se_chain op_leU b_le op_leU b_le se_str (se_var 0) se_str)))
theorem sc_pieces : FnScope ["line", "number", "at", "char", "found", "text", "end"] ["line", "number"] (defScope s_pieces) := ⟨rfl, rfl, rfl, by decide +kernel, rfl, by decide +kernel, by decide +kernel⟩
theorem ok_pieces (T : Tx K mg cs) : FnOk P w K mg base (L2.CX P w) 4 T.f_pieces T.fd_pieces ["line", "number"] (spX K 2 (r_pieces cs)) := by
  have sc := sc_pieces
  refine ok_fnX (n := 2) (k := 5) (as := [2, 3, 4, 5, 6]) (lv := 3) (b := b_pieces cs) T.F_pieces sc rfl rfl fun X cdv A outer s H EE eX hr => ?_
  subst eX
  exact (ss_cons (ss_for (passes_of rfl) rfl (si_numS T.z_enumerate (sa_cons (se_var 0) sa_nil)) (sg_tp rfl (sgs_cons (sg_nm 2 sc.nd) (sgs_cons (sg_nm 3 sc.nd) sgs_nil))) (ss_one (ss_if (st_not (st_tru (se_call (ok_is_sign T) (hr.mono (by omega)) T.g_is_sign T.F_is_sign.kp T.b_is_sign pass0 (sa_cons (se_var 3) sa_nil)))) (ss_one (ss_raise rfl T.ox_TextError T.ic_TextError T.ti_TextError (ok_TextError___init T) (hr.mono (by omega)) T.b_TextError___init T.g_TextError (sa_cons (se_var 1) (sa_cons (se_bin op_addU b_add (se_var 2) se_int) (sa_cons se_str sa_nil))))) ss_nil)))
    (ss_cons (ss_asg sc.nd (se_lst sa_nil))
    (ss_cons (ss_asg sc.nd se_int)
    (ss_cons (ss_while (passes_of rfl) (st_cmp (op_ltU hr.units0) b_lt (se_var 2) (se_callB T.z_len call_lenU b_len (sa_cons (se_var 0) sa_nil))) (ss_one (ss_if (st_cmp (op_eqD hr.units) b_eq (se_ix ix_seq b_ix (se_var 0) (se_var 2)) se_str) (ss_one (ss_aug sc.nd ip_add b_addI se_int)) (ss_one (ss_if (st_cmp (op_eqD hr.units) b_eq (se_ix ix_seq b_ix (se_var 0) (se_var 2)) (se_glob T.v_QUOTE T.r_QUOTE (fun _ => .str _))) (ss_cons (ss_unpX (se_callX (ok_quoted T) (hr.mono (by omega)) T.g_quoted T.F_quoted.kp T.b_quoted (sa_cons (se_var 0) (sa_cons (se_var 2) (sa_cons (se_var 1) sa_nil)))) (sg_tp rfl (sgs_cons (sg_nm 5 sc.nd) (sgs_cons (sg_nm 6 sc.nd) sgs_nil))))
    (ss_cons (ss_expr (se_mth 4 PySem.F.slot_list_append PySem.F.type_list_append mt_append bm_append (sa_cons (se_tup (sa_cons se_str (sa_cons (se_var 5) (sa_cons (se_bin op_addU b_add (se_var 2) se_int) sa_nil)))) sa_nil)))
    (ss_one (ss_asg sc.nd (se_var 6))))) (ss_cons (ss_asg sc.nd (se_call (ok_plain_end T) (hr.mono (by omega)) T.g_plain_end T.F_plain_end.kp T.b_plain_end pass0 (sa_cons (se_var 0) (sa_cons (se_var 2) sa_nil))))
    (ss_cons (ss_expr (se_mth 4 PySem.F.slot_list_append PySem.F.type_list_append mt_append bm_append (sa_cons (se_tup (sa_cons se_str (sa_cons (se_slc sl_U b_sl (se_var 0) (so_some (se_var 2)) (so_some (se_var 6))) (sa_cons (se_bin op_addU b_add (se_var 2) se_int) sa_nil)))) sa_nil)))
    (ss_one (ss_asg sc.nd (se_var 6))))))))))
    (ss_one (ss_ret 2 (se_var 4)))))))
theorem sc_law_told : FnScope ["_law_line", "_law_number", "error"] ["_law_line", "_law_number"] (defScope s_law_told) := ⟨rfl, rfl, rfl, by decide +kernel, rfl, by decide +kernel, by decide +kernel⟩
theorem ok_law_told (T : Tx K mg cs) : FnOk P w K mg base CX0 5 T.f_law_told T.fd_law_told ["_law_line", "_law_number"] (spF K 2 (r_law_told cs)) := by
  have sc := sc_law_told
  refine ok_fn (n := 2) (k := 1) (as := [2]) (lv := 4) (b := b_law_told cs) T.F_law_told sc rfl rfl fun X cdv A outer s H EE eX hr => ?_
  subst eX
  exact (ss_one (ss_tryAsR (i1 := 2) rfl rfl sc.nd ⟨rfl, by decide, .inl T.g_TextError⟩ T.te_TextError (fun pn xe po => (ss_one (ss_retX 2 (se_callX (ok_pieces T) (hr.mono (by omega)) T.g_pieces T.F_pieces.kp T.b_pieces (sa_cons (se_var 0) (sa_cons (se_var 1) sa_nil)))))) (fun a oe dd pn hz hf => (ss_one (ss_ret 2 (se_tup (sa_cons (se_exf 2 T.xf_TextError T.nx_TextError_line hz hf) (sa_cons (se_exf 2 T.xf_TextError T.nx_TextError_column hz hf) (sa_cons (se_exf 2 T.xf_TextError T.nx_TextError_reason hz hf) sa_nil)))))))))
theorem sc_law : FnScope ["_law_script", "_law_state_here", "_law_number", "_law_line", "_law_due", "_law_before", "_law_turn", "_law_kind", "_law_text", "_law_written", "_law_gap", "_law_pick", "_law_at", "_law_char", "_law_end"] ["_law_script"] (defScope s_law) := ⟨rfl, rfl, rfl, by decide +kernel, rfl, by decide +kernel, by decide +kernel⟩
theorem ok_law (T : Tx K mg cs) : FnOk P w K mg base CX0 6 T.f_law T.fd_law ["_law_script"] (spF K 1 (r_law cs)) := by
  have sc := sc_law
  refine ok_fn (n := 1) (k := 14) (as := [1, 2, 3, 4, 5, 6, 7, 8, 9, 10, 11, 12, 13, 14]) (lv := 5) (b := b_law cs) T.F_law sc rfl rfl fun X cdv A outer s H EE eX hr => ?_
  subst eX
  exact (ss_cons (ss_asg sc.nd (se_call (ok_law_state T) (hr.mono (by omega)) T.g_law_state T.F_law_state.kp T.b_law_state pass0 (sa_cons (se_var 0) sa_nil)))
    (ss_cons (ss_asg sc.nd (se_bin op_addU b_add se_int (se_call (ok_law_draw T) (hr.mono (by omega)) T.g_law_draw T.F_law_draw.kp T.b_law_draw pass0 (sa_cons (se_var 1) (sa_cons se_int sa_nil)))))
    (ss_cons (ss_asg sc.nd (se_bin op_mulZ b_mulZ se_str (se_call (ok_law_draw T) (hr.mono (by omega)) T.g_law_draw T.F_law_draw.kp T.b_law_draw pass0 (sa_cons (se_var 1) (sa_cons se_int sa_nil)))))
    (ss_cons (ss_asg sc.nd (se_lst sa_nil))
    (ss_cons (ss_asg sc.nd se_str)
    (ss_cons (ss_for PassesOwn.never rfl (si_rng1 T.z_range (sa_cons (se_call (ok_law_draw T) (hr.mono (by omega)) T.g_law_draw T.F_law_draw.kp T.b_law_draw pass0 (sa_cons (se_var 1) (sa_cons se_int sa_nil))) sa_nil)) (sg_nm 6 sc.nd) (ss_cons (ss_unp (se_call (ok_law_piece T) (hr.mono (by omega)) T.g_law_piece T.F_law_piece.kp T.b_law_piece pass0 (sa_cons (se_var 1) sa_nil)) (sg_tp rfl (sgs_cons (sg_nm 7 sc.nd) (sgs_cons (sg_nm 8 sc.nd) (sgs_cons (sg_nm 9 sc.nd) sgs_nil)))))
    (ss_cons (ss_asg sc.nd (se_call (ok_law_draw T) (hr.mono (by omega)) T.g_law_draw T.F_law_draw.kp T.b_law_draw pass0 (sa_cons (se_var 1) (sa_cons se_int sa_nil))))
    (ss_cons (ss_if (st_w (sw_and (st_cmp (op_eqD hr.units) b_eq (se_var 10) se_int) (sw_and (st_cmp (op_eqD hr.units) b_eq (se_var 7) se_str) (sw_and1 (st_cmp (op_eqD hr.units) b_eq (se_var 5) se_str))))) (ss_one (ss_asg sc.nd se_int)) ss_nil)
    (ss_cons (ss_asg sc.nd (se_bin op_addU b_add (se_var 3) (se_bin op_mulZ b_mulZ se_str (se_var 10))))
    (ss_cons (ss_expr (se_mth 4 PySem.F.slot_list_append PySem.F.type_list_append mt_append bm_append (sa_cons (se_tup (sa_cons (se_var 7) (sa_cons (se_var 8) (sa_cons (se_bin op_addU b_add (se_callB T.z_len call_lenU b_len (sa_cons (se_var 3) sa_nil)) se_int) sa_nil)))) sa_nil)))
    (ss_cons (ss_asg sc.nd (se_bin op_addU b_add (se_var 3) (se_var 9)))
    (ss_one (ss_asg sc.nd (se_var 7))))))))))
    (ss_cons (ss_if (st_cmp (op_neD hr.units) b_ne (se_call (ok_law_told T) (hr.mono (by omega)) T.g_law_told T.F_law_told.kp T.b_law_told pass0 (sa_cons (se_var 3) (sa_cons (se_var 2) sa_nil))) (se_var 4)) (ss_one (ss_ret 1 se_bl)) ss_nil)
    (ss_cons (ss_asg sc.nd (se_call (ok_law_draw T) (hr.mono (by omega)) T.g_law_draw T.F_law_draw.kp T.b_law_draw pass0 (sa_cons (se_var 1) (sa_cons se_int sa_nil))))
    (ss_cons (ss_if (st_cmp (op_eqD hr.units) b_eq (se_var 11) se_int) (ss_cons (ss_asg sc.nd (se_call (ok_law_draw T) (hr.mono (by omega)) T.g_law_draw T.F_law_draw.kp T.b_law_draw pass0 (sa_cons (se_var 1) (sa_cons (se_bin op_addU b_add (se_callB T.z_len call_lenU b_len (sa_cons (se_var 3) sa_nil)) se_int) sa_nil))))
    (ss_cons (ss_asg sc.nd (se_ix ix_seq b_ix (se_lst (sa_cons se_str (sa_cons se_str (sa_cons se_str sa_nil)))) (se_call (ok_law_draw T) (hr.mono (by omega)) T.g_law_draw T.F_law_draw.kp T.b_law_draw pass0 (sa_cons (se_var 1) (sa_cons se_int sa_nil)))))
    (ss_one (ss_ret 1 (se_cmp (op_eqD hr.units) b_eq (se_call (ok_law_told T) (hr.mono (by omega)) T.g_law_told T.F_law_told.kp T.b_law_told pass0 (sa_cons (se_bin op_addU b_add (se_bin op_addU b_add (se_slc sl_U b_sl (se_var 3) so_none (so_some (se_var 12))) (se_var 13)) (se_slc sl_U b_sl (se_var 3) (so_some (se_var 12)) so_none)) (sa_cons (se_var 2) sa_nil))) (se_tup (sa_cons (se_var 2) (sa_cons (se_bin op_addU b_add (se_var 12) se_int) (sa_cons se_str sa_nil))))))))) ss_nil)
    (ss_cons (ss_if (st_cmp (op_eqD hr.units) b_eq (se_var 11) se_int) (ss_one (ss_ret 1 (se_cmp (op_eqD hr.units) b_eq (se_call (ok_law_told T) (hr.mono (by omega)) T.g_law_told T.F_law_told.kp T.b_law_told pass0 (sa_cons (se_bin op_addU b_add (se_var 3) se_str) (sa_cons (se_var 2) sa_nil))) (se_tup (sa_cons (se_var 2) (sa_cons (se_bin op_addU b_add (se_callB T.z_len call_lenU b_len (sa_cons (se_var 3) sa_nil)) se_int) (sa_cons se_str sa_nil))))))) ss_nil)
    (ss_cons (ss_if (st_cmp (op_eqD hr.units) b_eq (se_var 11) se_int) (ss_cons (ss_asg sc.nd (se_ix ix_seq b_ix (se_lst (sa_cons se_str (sa_cons se_str (sa_cons se_str (sa_cons se_str (sa_cons se_str sa_nil)))))) (se_call (ok_law_draw T) (hr.mono (by omega)) T.g_law_draw T.F_law_draw.kp T.b_law_draw pass0 (sa_cons (se_var 1) (sa_cons se_int sa_nil)))))
    (ss_one (ss_ret 1 (se_cmp (op_eqD hr.units) b_eq (se_call (ok_law_told T) (hr.mono (by omega)) T.g_law_told T.F_law_told.kp T.b_law_told pass0 (sa_cons (se_bin op_addU b_add (se_bin op_addU b_add (se_var 3) se_str) (se_var 14)) (sa_cons (se_var 2) sa_nil))) (se_tup (sa_cons (se_var 2) (sa_cons (se_bin op_addU b_add (se_callB T.z_len call_lenU b_len (sa_cons (se_var 3) sa_nil)) se_int) (sa_cons se_str sa_nil)))))))) ss_nil)
    (ss_one (ss_ret 1 (se_and (se_cmp (op_eqD hr.units) b_eq (se_call (ok_law_told T) (hr.mono (by omega)) T.g_law_told T.F_law_told.kp T.b_law_told pass0 (sa_cons se_str (sa_cons (se_var 2) sa_nil))) (se_lst sa_nil)) (se_and1 (se_cmp (op_eqD hr.units) b_eq (se_call (ok_law_told T) (hr.mono (by omega)) T.g_law_told T.F_law_told.kp T.b_law_told pass0 (sa_cons se_str (sa_cons (se_var 2) sa_nil))) (se_lst sa_nil)))))))))))))))))
end
/-! ### the head -/
theorem all_mk {l : PySem.W.OpenLaw} {w : World} {K : PySem.W.Frag} {h : Heap} {mg : Str → Option Value} {fa : Addr} (X : K.In h) (G : h.Ns mainGlobals mg) (hfa : mg "law" = some (.ref fa))
    {C0 C1 : Addr}
    {nm1 q1 : Str} {N1 : Addr} {bs1 : List Value} {sn1 : List Str} {sub1 : List Value} {ab1 : Bool} {col1 : Option Bool} {dd1 : Option Addr} {m0_1 m1_1 m2_1 m3_1 m5_1 : Option Value}
    {od0 an0 : Option Addr} {sl0 : Array (Option Value)} {oc0 kV0 dc0 pm0 cd0 ct0 : Value} {f0 : Addr}
    {od1 an1 : Option Addr} {sl1 : Array (Option Value)} {oc1 kV1 dc1 pm1 cd1 ct1 : Value} {f1 : Addr}
    {od2 an2 : Option Addr} {sl2 : Array (Option Value)} {oc2 kV2 dc2 pm2 cd2 ct2 : Value} {f2 : Addr}
    {od3 an3 : Option Addr} {sl3 : Array (Option Value)} {oc3 kV3 dc3 pm3 cd3 ct3 : Value} {f3 : Addr}
    {od4 an4 : Option Addr} {sl4 : Array (Option Value)} {oc4 kV4 dc4 pm4 cd4 ct4 : Value} {f4 : Addr}
    {od5 an5 : Option Addr} {sl5 : Array (Option Value)} {oc5 kV5 dc5 pm5 cd5 ct5 : Value} {f5 : Addr}
    {od6 an6 : Option Addr} {sl6 : Array (Option Value)} {oc6 kV6 dc6 pm6 cd6 ct6 : Value} {f6 : Addr}
    {od7 an7 : Option Addr} {sl7 : Array (Option Value)} {oc7 kV7 dc7 pm7 cd7 ct7 : Value} {f7 : Addr}
    {od8 an8 : Option Addr} {sl8 : Array (Option Value)} {oc8 kV8 dc8 pm8 cd8 ct8 : Value} {f8 : Addr}
    {od9 an9 : Option Addr} {sl9 : Array (Option Value)} {oc9 kV9 dc9 pm9 cd9 ct9 : Value} {f9 : Addr}
    {od10 an10 : Option Addr} {sl10 : Array (Option Value)} {oc10 kV10 dc10 pm10 cd10 ct10 : Value} {f10 : Addr}
    {tk_BACKSLASH : Tok}
    {tk_QUOTE : Tok}
    (aC1 : PySem.W.nsIn K mainGlobals "TextError" = some (some (.ref C1)))
    (xL1 : K.lookup C1 = some (excClassObj nm1 q1 C1 N1 bs1 [.ref C0, .type "ValueError", .type "Exception", .type "BaseException", .type "object"] true sn1 sub1 ab1 col1 dd1 m0_1 m1_1 m2_1 m3_1 m5_1 "ValueError.__new__"))
    (xsa1 : PySem.W.findIn K (.ref C1) "__setattr__" = some (some (.builtin "object.__setattr__")))
    (xga1 : PySem.W.findIn K (.ref C1) "__getattribute__" = some (some (.builtin "BaseException.__getattribute__")))
    (xgg1 : PySem.W.findIn K (.ref C1) "__getattr__" = some none)
    (xkc1 : PySem.W.keepIn K (.ref C1) = true)
    (xex1 : PySem.W.subIn K (.ref C1) (.type "BaseException") = some true)
    (xty1 : PySem.W.typeIn K (.ref C1) = some (.type "type"))
    (xhd1 : PySem.W.hasDictIn K C1 = true)
    (xis1 : PySem.W.isClsIn K C1 = true)
    (xss1 : PySem.W.subIn K (.ref C1) (.ref C1) = some true)
    (nx1_line : PySem.W.findIn K (.ref C1) "line" = some none)
    (nx1_column : PySem.W.findIn K (.ref C1) "column" = some none)
    (nx1_reason : PySem.W.findIn K (.ref C1) "reason" = some none)
    (a0 : PySem.W.nsIn K mainGlobals "_law_draw" = some (some (.ref f0)))
    (l0 : K.lookup f0 = some ⟨oc0, od0, .func (PySem.W.fnOf "_law_draw" "_law_draw" (defArgs s_law_draw) (defBody s_law_draw) (defScope s_law_draw) .none kV0 dc0 pm0 an0 cd0 ct0), sl0⟩)
    (c0 : PySem.W.codeIn K cd0 "_law_draw" = true)
    (k0 : PySem.W.keepIn K (.ref f0) = true)
    (a1 : PySem.W.nsIn K mainGlobals "_law_quoted" = some (some (.ref f1)))
    (l1 : K.lookup f1 = some ⟨oc1, od1, .func (PySem.W.fnOf "_law_quoted" "_law_quoted" (defArgs s_law_quoted) (defBody s_law_quoted) (defScope s_law_quoted) .none kV1 dc1 pm1 an1 cd1 ct1), sl1⟩)
    (c1 : PySem.W.codeIn K cd1 "_law_quoted" = true)
    (k1 : PySem.W.keepIn K (.ref f1) = true)
    (a2 : PySem.W.nsIn K mainGlobals "_law_piece" = some (some (.ref f2)))
    (l2 : K.lookup f2 = some ⟨oc2, od2, .func (PySem.W.fnOf "_law_piece" "_law_piece" (defArgs s_law_piece) (defBody s_law_piece) (defScope s_law_piece) .none kV2 dc2 pm2 an2 cd2 ct2), sl2⟩)
    (c2 : PySem.W.codeIn K cd2 "_law_piece" = true)
    (k2 : PySem.W.keepIn K (.ref f2) = true)
    (a3 : PySem.W.nsIn K mainGlobals "_law_state" = some (some (.ref f3)))
    (l3 : K.lookup f3 = some ⟨oc3, od3, .func (PySem.W.fnOf "_law_state" "_law_state" (defArgs s_law_state) (defBody s_law_state) (defScope s_law_state) .none kV3 dc3 pm3 an3 cd3 ct3), sl3⟩)
    (c3 : PySem.W.codeIn K cd3 "_law_state" = true)
    (k3 : PySem.W.keepIn K (.ref f3) = true)
    (a4 : PySem.W.findIn K (.ref C1) "__init__" = some (some (.ref f4)))
    (t4 : PySem.W.typeIn K (.ref f4) = some (.type "function"))
    (l4 : K.lookup f4 = some ⟨oc4, od4, .func (PySem.W.fnOf "__init__" "TextError.__init__" (defArgs s_TextError___init) (defBody s_TextError___init) (defScope s_TextError___init) .none kV4 dc4 pm4 an4 cd4 ct4), sl4⟩)
    (c4 : PySem.W.codeIn K cd4 "TextError.__init__" = true)
    (k4 : PySem.W.keepIn K (.ref f4) = true)
    (a5 : PySem.W.nsIn K mainGlobals "_plain_end" = some (some (.ref f5)))
    (l5 : K.lookup f5 = some ⟨oc5, od5, .func (PySem.W.fnOf "_plain_end" "_plain_end" (defArgs s_plain_end) (defBody s_plain_end) (defScope s_plain_end) .none kV5 dc5 pm5 an5 cd5 ct5), sl5⟩)
    (c5 : PySem.W.codeIn K cd5 "_plain_end" = true)
    (k5 : PySem.W.keepIn K (.ref f5) = true)
    (a6 : PySem.W.nsIn K mainGlobals "_quoted" = some (some (.ref f6)))
    (l6 : K.lookup f6 = some ⟨oc6, od6, .func (PySem.W.fnOf "_quoted" "_quoted" (defArgs s_quoted) (defBody s_quoted) (defScope s_quoted) .none kV6 dc6 pm6 an6 cd6 ct6), sl6⟩)
    (c6 : PySem.W.codeIn K cd6 "_quoted" = true)
    (k6 : PySem.W.keepIn K (.ref f6) = true)
    (a7 : PySem.W.nsIn K mainGlobals "is_sign" = some (some (.ref f7)))
    (l7 : K.lookup f7 = some ⟨oc7, od7, .func (PySem.W.fnOf "is_sign" "is_sign" (defArgs s_is_sign) (defBody s_is_sign) (defScope s_is_sign) .none kV7 dc7 pm7 an7 cd7 ct7), sl7⟩)
    (c7 : PySem.W.codeIn K cd7 "is_sign" = true)
    (k7 : PySem.W.keepIn K (.ref f7) = true)
    (a8 : PySem.W.nsIn K mainGlobals "pieces" = some (some (.ref f8)))
    (l8 : K.lookup f8 = some ⟨oc8, od8, .func (PySem.W.fnOf "pieces" "pieces" (defArgs s_pieces) (defBody s_pieces) (defScope s_pieces) .none kV8 dc8 pm8 an8 cd8 ct8), sl8⟩)
    (c8 : PySem.W.codeIn K cd8 "pieces" = true)
    (k8 : PySem.W.keepIn K (.ref f8) = true)
    (a9 : PySem.W.nsIn K mainGlobals "_law_told" = some (some (.ref f9)))
    (l9 : K.lookup f9 = some ⟨oc9, od9, .func (PySem.W.fnOf "_law_told" "_law_told" (defArgs s_law_told) (defBody s_law_told) (defScope s_law_told) .none kV9 dc9 pm9 an9 cd9 ct9), sl9⟩)
    (c9 : PySem.W.codeIn K cd9 "_law_told" = true)
    (k9 : PySem.W.keepIn K (.ref f9) = true)
    (a10 : PySem.W.nsIn K mainGlobals "law" = some (some (.ref f10)))
    (l10 : K.lookup f10 = some ⟨oc10, od10, .func (PySem.W.fnOf "law" "law" (defArgs s_law) (defBody s_law) (defScope s_law) .none kV10 dc10 pm10 an10 cd10 ct10), sl10⟩)
    (c10 : PySem.W.codeIn K cd10 "law" = true)
    (k10 : PySem.W.keepIn K (.ref f10) = true)
    (z_enumerate : PySem.W.nsIn K mainGlobals "enumerate" = some none)
    (z_int : PySem.W.nsIn K mainGlobals "int" = some none)
    (z_len : PySem.W.nsIn K mainGlobals "len" = some none)
    (z_list : PySem.W.nsIn K mainGlobals "list" = some none)
    (z_range : PySem.W.nsIn K mainGlobals "range" = some none)
    (z_str : PySem.W.nsIn K mainGlobals "str" = some none)
    (v_BACKSLASH : PySem.W.nsIn K mainGlobals "BACKSLASH" = some (some (.str "\\" tk_BACKSLASH)))
    (v_QUOTE : PySem.W.nsIn K mainGlobals "QUOTE" = some (some (.str "\"" tk_QUOTE))) :
    ∃ fd : FuncData, (∀ (s : Shared) (v : Value), BindsTo s fd ⟨[v], []⟩ [("_law_script", v)]) ∧ ∀ base : Heap, K.In base → base.Ns mainGlobals mg → FnOk l.prog w K mg base CX0 6 fa fd ["_law_script"] (spA K r_law) := by
  have e := hfa.symm.trans (PySem.W.mg_of X G a10)
  cases e
  have F0 := fun_mk (st := s_law_draw) l0 c0 k0
  have b0 := F0.binds (ps := ["_law_state_here", "_law_many"]) fun _ _ _ _ _ _ us hl => match us, hl with | [_, _], _ => rfl
  have F1 := fun_mk (st := s_law_quoted) l1 c1 k1
  have b1 := F1.binds (ps := ["_law_text"]) fun _ _ _ _ _ _ us hl => match us, hl with | [_], _ => rfl
  have F2 := fun_mk (st := s_law_piece) l2 c2 k2
  have b2 := F2.binds (ps := ["_law_state_here"]) fun _ _ _ _ _ _ us hl => match us, hl with | [_], _ => rfl
  have F3 := fun_mk (st := s_law_state) l3 c3 k3
  have b3 := F3.binds (ps := ["_law_script"]) fun _ _ _ _ _ _ us hl => match us, hl with | [_], _ => rfl
  have F4 := fun_mk (st := s_TextError___init) l4 c4 k4
  have b4 := F4.binds (ps := ["self", "line", "column", "reason"]) fun _ _ _ _ _ _ us hl => match us, hl with | [_, _, _, _], _ => rfl
  have F5 := fun_mk (st := s_plain_end) l5 c5 k5
  have b5 := F5.binds (ps := ["line", "at"]) fun _ _ _ _ _ _ us hl => match us, hl with | [_, _], _ => rfl
  have F6 := fun_mk (st := s_quoted) l6 c6 k6
  have b6 := F6.binds (ps := ["line", "at", "number"]) fun _ _ _ _ _ _ us hl => match us, hl with | [_, _, _], _ => rfl
  have F7 := fun_mk (st := s_is_sign) l7 c7 k7
  have b7 := F7.binds (ps := ["char"]) fun _ _ _ _ _ _ us hl => match us, hl with | [_], _ => rfl
  have F8 := fun_mk (st := s_pieces) l8 c8 k8
  have b8 := F8.binds (ps := ["line", "number"]) fun _ _ _ _ _ _ us hl => match us, hl with | [_, _], _ => rfl
  have F9 := fun_mk (st := s_law_told) l9 c9 k9
  have b9 := F9.binds (ps := ["_law_line", "_law_number"]) fun _ _ _ _ _ _ us hl => match us, hl with | [_, _], _ => rfl
  have F10 := fun_mk (st := s_law) l10 c10 k10
  have b10 := F10.binds (ps := ["_law_script"]) fun _ _ _ _ _ _ us hl => match us, hl with | [_], _ => rfl
  exact ⟨PySem.W.fnOf "law" "law" (defArgs s_law) (defBody s_law) (defScope s_law) .none kV10 dc10 pm10 an10 cd10 ct10, fun s v => .of_eq rfl, fun base _ _ => (ok_law (cs := csOf [0, C1]) (T := { z_enumerate := PySem.W.mg_none_of X G z_enumerate, z_int := PySem.W.mg_none_of X G z_int, z_len := PySem.W.mg_none_of X G z_len, z_list := PySem.W.mg_none_of X G z_list, z_range := PySem.W.mg_none_of X G z_range, z_str := PySem.W.mg_none_of X G z_str, u_BACKSLASH := _, v_BACKSLASH := PySem.W.mg_of X G v_BACKSLASH, r_BACKSLASH := by first | rfl | exact ⟨_, rfl⟩ | constructor, u_QUOTE := _, v_QUOTE := PySem.W.mg_of X G v_QUOTE, r_QUOTE := by first | rfl | exact ⟨_, rfl⟩ | constructor, f_law_draw := f0, fd_law_draw := _, F_law_draw := F0, b_law_draw := b0, g_law_draw := PySem.W.mg_of X G a0, f_law_quoted := f1, fd_law_quoted := _, F_law_quoted := F1, b_law_quoted := b1, g_law_quoted := PySem.W.mg_of X G a1, f_law_piece := f2, fd_law_piece := _, F_law_piece := F2, b_law_piece := b2, g_law_piece := PySem.W.mg_of X G a2, f_law_state := f3, fd_law_state := _, F_law_state := F3, b_law_state := b3, g_law_state := PySem.W.mg_of X G a3, f_TextError___init := f4, fd_TextError___init := _, F_TextError___init := F4, b_TextError___init := b4, ic_TextError := a4, ti_TextError := t4, f_plain_end := f5, fd_plain_end := _, F_plain_end := F5, b_plain_end := b5, g_plain_end := PySem.W.mg_of X G a5, f_quoted := f6, fd_quoted := _, F_quoted := F6, b_quoted := b6, g_quoted := PySem.W.mg_of X G a6, f_is_sign := f7, fd_is_sign := _, F_is_sign := F7, b_is_sign := b7, g_is_sign := PySem.W.mg_of X G a7, f_pieces := f8, fd_pieces := _, F_pieces := F8, b_pieces := b8, g_pieces := PySem.W.mg_of X G a8, f_law_told := f9, fd_law_told := _, F_law_told := F9, b_law_told := b9, g_law_told := PySem.W.mg_of X G a9, f_law := fa, fd_law := _, F_law := F10, b_law := b10, g_law := PySem.W.mg_of X G a10, g_TextError := PySem.W.mg_of X G aC1, ox_TextError := ⟨⟨nm1, q1, N1, bs1, _, sn1, sub1, ab1, col1, dd1, m0_1, m1_1, m2_1, m3_1, m5_1, xL1, by rfl⟩, xsa1, xex1, xty1, xkc1⟩, xf_TextError := ⟨xga1, xgg1, xex1, xhd1⟩, te_TextError := exm_own xex1 xis1 xty1 xss1, nx_TextError_line := nx1_line, nx_TextError_column := nx1_column, nx_TextError_reason := nx1_reason })).imp fun vs H Q E h => h _⟩
end Cl
namespace Cl
open PySem PySem.Spec PyProof.Rows L2 Sy
/-! ### a quoted string, written -/
def esc : List Nat → List Nat
  | [] => []
  | c :: t => (if c = 34 ∨ c = 92 then [92, c] else [c]) ++ esc t
def ones (t : List Nat) : List (List Nat) := t.map fun c => [c]
def exT (num col : Int) (r : Str) (C : Addr) : Exc := ⟨C, ["reason", "column", "line"], [.str r, .int col, .int num]⟩
section
variable {L : List Nat} (hT : Txo L) (at_ num : Int)
def stQ (L : List Nat) (at_ num : Int) (u : List (List Nat)) (p : Nat) : Sl := [some (.val (.str (tx L))), some (.val (.int at_)), some (.val (.int num)), some (.lst (u.map fun x => DV.str (tx x))), some (.val (.int p))]
theorem lq : ("\"" : Str) = tx [34] := by rfl
theorem lb : ("\\" : Str) = tx [92] := by rfl
theorem ls : (" " : Str) = tx [32] := by rfl
theorem at1 {L : List Nat} (h : Txo L) {p c : Nat} (e : L[p]? = some c) : Txo [c] := Txo.one (h.le c (List.mem_of_getElem? e))
include hT in
theorem wq_in {u : List (List Nat)} {p c : Nat} (e : L[p]? = some c) : w_quoted_1 (stQ L at_ num u p) = .ok (!decide (c = 34)) (stQ L at_ num u p) := by
  have hp : p < L.length := (List.getElem?_eq_some_iff.mp e).1
  have hln := lenD_tx hT.line
  have hix := ixD_tx (i := (p : Int)) hT.line
  rw [atI_n, e] at hix
  have hne := neD_tx (at1 hT e) (Txo.one (show 34 ≤ 127 by omega))
  have hd : decide ([c] = [34]) = decide (c = 34) := by simp
  rw [hd] at hne
  have hlt : ((p : Int) < (L.length : Int)) := by omega
  simp [w_quoted_1, stQ, hln, hix, lq, hne, hlt]
include hT in
theorem wq_out {u : List (List Nat)} {p : Nat} (h : L.length ≤ p) : w_quoted_1 (stQ L at_ num u p) = .ok false (stQ L at_ num u p) := by
  have hln := lenD_tx hT.line
  have hlt : ¬ ((p : Int) < (L.length : Int)) := by omega
  simp [w_quoted_1, stQ, hln, hlt]
include hT in
theorem app_one {p c : Nat} (e : L[p]? = some c) : slD (.str (tx L)) (some (p : Int)) (some ((p : Int) + 1)) = some (.val (.str (tx [c]))) := by
  have hp : p < L.length := (List.getElem?_eq_some_iff.mp e).1
  have i1 : (p : Int) + 1 = ((p + 1 : Nat) : Int) := by omega
  rw [slD_tx hT.line, i1, cutL_mid]
  have : (L.drop p).take (p + 1 - p) = [c] := by
    rw [List.drop_eq_getElem_cons hp, show p + 1 - p = 1 by omega, List.take_succ_cons, List.take_zero]
    rw [List.getElem?_eq_getElem hp] at e
    rw [Option.some.inj e]
  rw [this]
include hT in
theorem app_none {p : Nat} (h : L.length ≤ p) : slD (.str (tx L)) (some (p : Int)) (some ((p : Int) + 1)) = some (.val (.str (tx []))) := by
  have i1 : (p : Int) + 1 = ((p + 1 : Nat) : Int) := by omega
  rw [slD_tx hT.line, i1, cutL_mid, List.drop_eq_nil_of_le h]
  simp
theorem snoc_tx (u : List (List Nat)) (c : List Nat) : (u.map fun x => DV.str (tx x)) ++ [DV.str (tx c)] = (u ++ [c]).map fun x => DV.str (tx x) := by simp
include hT in
theorem bq_plain (cs : Nat → Addr) {u : List (List Nat)} {p c : Nat} (e : L[p]? = some c) (hc : c ≠ 92) (hu : u.length ≤ 1000) : l_quoted_1 cs (stQ L at_ num u p) = .nx (stQ L at_ num (u ++ [[c]]) (p + 1)) := by
  have hix := ixD_tx (i := (p : Int)) hT.line
  rw [atI_n, e] at hix
  have heq := eqD_tx (at1 hT e) (Txo.one (show 92 ≤ 127 by omega))
  have hd : decide ([c] = [92]) = false := by simp [hc]
  rw [hd] at heq
  have ha := app_one hT e
  have i1 : (p : Int) + 1 = ((p + 1 : Nat) : Int) := by omega
  have hs := snoc_tx u [c]
  unfold stQ
  rw [← hs]
  have hl : (u.map fun x => DV.str (tx x)).length ≤ 10000000 := by simp; omega
  generalize (u.map fun x => DV.str (tx x)) = U at *
  rw [← i1]
  simp [l_quoted_1, hix, lb, heq, ha, hl]
include hT in
theorem bq_esc (cs : Nat → Addr) {u : List (List Nat)} {p c : Nat} (e : L[p]? = some 92) (e2 : L[p + 1]? = some c) (hc : c = 34 ∨ c = 92) (hu : u.length ≤ 1000) : l_quoted_1 cs (stQ L at_ num u p) = .nx (stQ L at_ num (u ++ [[c]]) (p + 2)) := by
  have hp : p + 1 < L.length := (List.getElem?_eq_some_iff.mp e2).1
  have hix := ixD_tx (i := (p : Int)) hT.line
  rw [atI_n, e] at hix
  have i1 : (p : Int) + 1 = ((p + 1 : Nat) : Int) := by omega
  have hix2 := ixD_tx (i := ((p + 1 : Nat) : Int)) hT.line
  rw [atI_n, e2] at hix2
  have heq := eqD_tx (Txo.one (show 92 ≤ 127 by omega)) (Txo.one (show 92 ≤ 127 by omega))
  have hln := lenD_tx hT.line
  have hlt : (((p + 1 : Nat) : Int) < (L.length : Int)) := by omega
  have hn : ninT (.str (tx [c])) (.tup [.str (tx [34]), .str (tx [92])]) = bl (!decide ([c] ∈ [[34], [92]])) := ninT_tx (bs := [[34], [92]])
  have hd : decide ([c] ∈ [[34], [92]]) = true := by simp [hc]
  rw [hd] at hn
  have ha := app_one hT e2
  have i2 : ((p + 1 : Nat) : Int) + 1 = ((p + 2 : Nat) : Int) := by omega
  have hs := snoc_tx u [c]
  unfold stQ
  rw [← hs]
  have hl : (u.map fun x => DV.str (tx x)).length ≤ 10000000 := by simp; omega
  generalize (u.map fun x => DV.str (tx x)) = U at *
  rw [← i2]
  rw [← i1] at *
  simp [l_quoted_1, hix, hix2, lb, lq, heq, ha, hl, hln, hlt, hn]
include hT in
theorem bq_bad (cs : Nat → Addr) {u : List (List Nat)} {p c : Nat} (e : L[p]? = some 92) (e2 : L[p + 1]? = some c) (hc : ¬ (c = 34 ∨ c = 92)) (hu : u.length ≤ 1000) : ∃ s, l_quoted_1 cs (stQ L at_ num u p) = .exc (exT num ((p : Int) + 1) "quoted" (cs 1)) s ∧ s = stQ L at_ num u (p + 1) := by
  refine ⟨_, ?_, rfl⟩
  have hp : p + 1 < L.length := (List.getElem?_eq_some_iff.mp e2).1
  have hix := ixD_tx (i := (p : Int)) hT.line
  rw [atI_n, e] at hix
  have i1 : (p : Int) + 1 = ((p + 1 : Nat) : Int) := by omega
  have hix2 := ixD_tx (i := ((p + 1 : Nat) : Int)) hT.line
  rw [atI_n, e2] at hix2
  have heq := eqD_tx (Txo.one (show 92 ≤ 127 by omega)) (Txo.one (show 92 ≤ 127 by omega))
  have hln := lenD_tx hT.line
  have hlt : (((p + 1 : Nat) : Int) < (L.length : Int)) := by omega
  have hn : ninT (.str (tx [c])) (.tup [.str (tx [34]), .str (tx [92])]) = bl (!decide ([c] ∈ [[34], [92]])) := ninT_tx (bs := [[34], [92]])
  have hd : decide ([c] ∈ [[34], [92]]) = false := by simpa using hc
  rw [hd] at hn
  unfold stQ exT
  generalize (u.map fun x => DV.str (tx x)) = U at *
  rw [← i1] at *
  simp [l_quoted_1, hix, hix2, lb, lq, heq, hln, hlt, hn]
include hT in
theorem bq_end (cs : Nat → Addr) {u : List (List Nat)} {p : Nat} (e : L[p]? = some 92) (e2 : L.length = p + 1) (hu : u.length ≤ 1000) : l_quoted_1 cs (stQ L at_ num u p) = .nx (stQ L at_ num (u ++ [[]]) (p + 2)) := by
  have hix := ixD_tx (i := (p : Int)) hT.line
  rw [atI_n, e] at hix
  have i1 : (p : Int) + 1 = ((p + 1 : Nat) : Int) := by omega
  have heq := eqD_tx (Txo.one (show 92 ≤ 127 by omega)) (Txo.one (show 92 ≤ 127 by omega))
  have hln := lenD_tx hT.line
  have hlt : ¬ (((p + 1 : Nat) : Int) < (L.length : Int)) := by omega
  have ha := app_none hT (p := p + 1) (by omega)
  have i2 : ((p + 1 : Nat) : Int) + 1 = ((p + 2 : Nat) : Int) := by omega
  have hs := snoc_tx u []
  unfold stQ
  rw [← hs]
  have hl : (u.map fun x => DV.str (tx x)).length ≤ 10000000 := by simp; omega
  generalize (u.map fun x => DV.str (tx x)) = U at *
  rw [← i2]
  rw [← i1] at *
  simp [l_quoted_1, hix, lb, heq, ha, hl, hln, hlt]
end
theorem whl_step {c : TM} {b : SM} {n : Nat} {sl s1 s2 : Sl} (h : c sl = .ok true s1) (h2 : b s1 = .nx s2) : whl c b (n + 1) sl = whl c b n s2 := by
  rw [whl, h]
  simp only [h2]
theorem whl_stop {c : TM} {b : SM} {n : Nat} {sl s1 : Sl} (h : c sl = .ok false s1) : whl c b (n + 1) sl = .nx s1 := by
  rw [whl, h]
theorem whl_exc {c : TM} {b : SM} {n : Nat} {sl s1 s2 : Sl} {x : Exc} (h : c sl = .ok true s1) (h2 : b s1 = .exc x s2) : whl c b (n + 1) sl = .exc x s2 := by
  rw [whl, h]
  simp only [h2]
theorem drop_at {L r : List Nat} {p c : Nat} (h : L.drop p = c :: r) : L[p]? = some c ∧ L.drop (p + 1) = r ∧ p < L.length := by
  have hp : p < L.length := by
    by_cases z : p < L.length
    · exact z
    · rw [List.drop_eq_nil_of_le (by omega)] at h; cases h
  rw [List.drop_eq_getElem_cons hp] at h
  obtain ⟨h1, h2⟩ := List.cons.inj h
  exact ⟨by rw [List.getElem?_eq_getElem hp, h1], h2, hp⟩
theorem drop_nil {L : List Nat} {p : Nat} (h : L.drop p = []) : L.length ≤ p := List.drop_eq_nil_iff.mp h
theorem esc_len (t : List Nat) : t.length ≤ (esc t).length := by
  induction t with
  | nil => simp
  | cons c t ih =>
    rw [esc, List.length_append, List.length_cons]
    split <;> simp <;> omega
theorem q_run {L : List Nat} (hT : Txo L) (at_ num : Int) (cs : Nat → Addr) {r : List Nat} {res : SRes} : ∀ (t : List Nat) (u : List (List Nat)) (p : Nat), L.drop p = esc t ++ r → u.length ≤ p →
    (∃ n, whl w_quoted_1 (l_quoted_1 cs) n (stQ L at_ num (u ++ ones t) (p + (esc t).length)) = res) → ∃ n, whl w_quoted_1 (l_quoted_1 cs) n (stQ L at_ num u p) = res
  | [], u, p, h, hu, ⟨n, e⟩ => ⟨n, by simpa [ones, esc] using e⟩
  | c :: t, u, p, h, hu, ⟨n, e⟩ => by
    have hl := hT.len
    by_cases hc : c = 34 ∨ c = 92
    · rw [esc, if_pos hc] at h
      obtain ⟨e1, h1, p1⟩ := drop_at (show L.drop p = 92 :: (c :: (esc t ++ r)) by simpa using h)
      obtain ⟨e2, h2, p2⟩ := drop_at h1
      obtain ⟨n', e'⟩ := q_run hT at_ num cs (res := res) t (u ++ [[c]]) (p + 2) h2 (by simp; omega) ⟨n, by
        have he : esc (c :: t) = [92, c] ++ esc t := by rw [esc, if_pos hc]
        have e1 : u ++ ones (c :: t) = u ++ [[c]] ++ ones t := by simp [ones]
        have e2 : p + (esc (c :: t)).length = p + 2 + (esc t).length := by rw [he]; simp; omega
        rw [← e1, ← e2]
        exact e⟩
      refine ⟨n' + 1, ?_⟩
      rw [whl_step (by rw [wq_in hT at_ num e1]; rfl) (bq_esc hT at_ num cs e1 e2 hc (by omega)), e']
    · rw [esc, if_neg hc] at h
      obtain ⟨e1, h1, p1⟩ := drop_at (show L.drop p = c :: (esc t ++ r) by simpa using h)
      obtain ⟨n', e'⟩ := q_run hT at_ num cs (res := res) t (u ++ [[c]]) (p + 1) h1 (by simp; omega) ⟨n, by
        have he : esc (c :: t) = [c] ++ esc t := by rw [esc, if_neg hc]
        have e1 : u ++ ones (c :: t) = u ++ [[c]] ++ ones t := by simp [ones]
        have e2 : p + (esc (c :: t)).length = p + 1 + (esc t).length := by rw [he]; simp; omega
        rw [← e1, ← e2]
        exact e⟩
      refine ⟨n' + 1, ?_⟩
      have c1 : c ≠ 34 := fun z => hc (.inl z)
      have c2 : c ≠ 92 := fun z => hc (.inr z)
      rw [whl_step (by rw [wq_in hT at_ num e1, decide_eq_false c1]; rfl) (bq_plain hT at_ num cs e1 c2 (by omega)), e']
theorem ones_flat (t : List Nat) : (ones t).flatten = t := by
  induction t with
  | nil => rfl
  | cons c t ih => rw [ones, List.map_cons, List.flatten_cons]; show [c] ++ (ones t).flatten = _; rw [ih]; rfl
/-! the string ends -/
theorem quoted_ok {L : List Nat} (hT : Txo L) (num : Int) (cs : Nat → Addr) {t r : List Nat} {at_ : Nat} (h : L.drop at_ = 34 :: (esc t ++ 34 :: r)) :
    r_quoted cs [.val (.str (tx L)), .val (.int at_), .val (.int num)] = .ok (.val (.tup [.str (tx t), .int ((at_ + (esc t).length + 2 : Nat) : Int)])) [.val (.str (tx L)), .val (.int at_), .val (.int num)] := by
  have hl := hT.len
  obtain ⟨e1, h1, p1⟩ := drop_at h
  have hd : L.drop (at_ + 1 + (esc t).length) = 34 :: r := by
    have := congrArg (List.drop (esc t).length) h1
    rw [List.drop_drop, List.drop_left] at this
    exact this
  obtain ⟨e2, _, p2⟩ := drop_at hd
  obtain ⟨n, e⟩ := q_run hT at_ num cs (res := .nx (stQ L at_ num (ones t) (at_ + 1 + (esc t).length))) t [] (at_ + 1) h1 (by simp) ⟨1, by
    rw [List.nil_append]
    exact whl_stop (wq_in hT at_ num e2)⟩
  have hw := whl_S e
  have hln := lenD_tx hT.line
  have hj := joinD_tx (xs := ones t) (by
    have : ((ones t).map List.length).sum = t.length := by
      rw [← List.length_flatten, ones_flat]
    have := esc_len t
    omega)
  rw [ones_flat] at hj
  have i0 : (at_ : Int) + 1 = ((at_ + 1 : Nat) : Int) := by omega
  have i1 : ((at_ + 1 + (esc t).length : Nat) : Int) + 1 = ((at_ + (esc t).length + 2 : Nat) : Int) := by omega
  have hge : ¬ ((L.length : Int) ≤ ((at_ + 1 + (esc t).length : Nat) : Int)) := by omega
  unfold stQ at hw
  generalize ((ones t).map fun x => DV.str (tx x)) = U at *
  rw [← i1]
  generalize ((at_ + 1 + (esc t).length : Nat) : Int) = E at *
  rw [← i0] at hw
  simp at hw
  simp [r_quoted, b_quoted, hw, hln, hge, hj]
theorem quoted_exc {L : List Nat} (hT : Txo L) (num : Int) (cs : Nat → Addr) {at_ : Nat} {x : Exc} (h : ∃ s, S.whl w_quoted_1 (l_quoted_1 cs) (stQ L at_ num [] (at_ + 1)) = .exc x s ∧ ∃ u p, s = stQ L at_ num u p) :
    r_quoted cs [.val (.str (tx L)), .val (.int at_), .val (.int num)] = .exc x [.val (.str (tx L)), .val (.int at_), .val (.int num)] := by
  obtain ⟨s, hw, u, p, rfl⟩ := h
  have i0 : (at_ : Int) + 1 = ((at_ + 1 : Nat) : Int) := by omega
  unfold stQ at hw
  rw [← i0] at hw
  simp at hw
  simp [r_quoted, b_quoted, hw]
theorem quoted_out {L : List Nat} (hT : Txo L) (num : Int) (cs : Nat → Addr) {at_ : Nat} {u : List (List Nat)} {p : Nat} (h : S.whl w_quoted_1 (l_quoted_1 cs) (stQ L at_ num [] (at_ + 1)) = .nx (stQ L at_ num u p)) (hp : L.length ≤ p) :
    r_quoted cs [.val (.str (tx L)), .val (.int at_), .val (.int num)] = .exc (exT num ((at_ : Int) + 1) "quoted" (cs 1)) [.val (.str (tx L)), .val (.int at_), .val (.int num)] := by
  have i0 : (at_ : Int) + 1 = ((at_ + 1 : Nat) : Int) := by omega
  have hln := lenD_tx hT.line
  have hge : ((L.length : Int) ≤ (p : Int)) := by omega
  unfold stQ at h
  rw [← i0] at h
  simp at h
  simp [r_quoted, b_quoted, h, hln, hge, exT]
end Cl
namespace Cl
open PySem PySem.Spec PyProof.Rows L2 Sy
/-! ### a plain piece's end -/
def stE (L : List Nat) (a : Int) (p : Nat) : Sl := [some (.val (.str (tx L))), some (.val (.int a)), some (.val (.int p))]
def spq (c : Nat) : Prop := c = 32 ∨ c = 34
instance (c : Nat) : Decidable (spq c) := by unfold spq; infer_instance
theorem we_in {L : List Nat} (hT : Txo L) (a : Int) {p c : Nat} (e : L[p]? = some c) : w_plain_end_1 (stE L a p) = .ok (!decide (spq c)) (stE L a p) := by
  have hp : p < L.length := (List.getElem?_eq_some_iff.mp e).1
  have hln := lenD_tx hT.line
  have hix := ixD_tx (i := (p : Int)) hT.line
  rw [atI_n, e] at hix
  have hn : ninT (.str (tx [c])) (.tup [.str (tx [32]), .str (tx [34])]) = bl (!decide ([c] ∈ [[32], [34]])) := ninT_tx (bs := [[32], [34]])
  have hd : decide ([c] ∈ [[32], [34]]) = decide (spq c) := decide_eq_decide.mpr (by simp [spq])
  rw [hd] at hn
  have hlt : ((p : Int) < (L.length : Int)) := by omega
  simp [w_plain_end_1, stE, hln, hix, lq, ls, hn, hlt]
theorem we_out {L : List Nat} (hT : Txo L) (a : Int) {p : Nat} (h : L.length ≤ p) : w_plain_end_1 (stE L a p) = .ok false (stE L a p) := by
  have hln := lenD_tx hT.line
  have hlt : ¬ ((p : Int) < (L.length : Int)) := by omega
  simp [w_plain_end_1, stE, hln, hlt]
theorem be_run (L : List Nat) (a : Int) (p : Nat) : l_plain_end_1 (stE L a p) = .nx (stE L a (p + 1)) := by
  have i1 : (p : Int) + 1 = ((p + 1 : Nat) : Int) := by omega
  unfold stE
  rw [← i1]
  simp [l_plain_end_1]
/-- a plain piece does not go on in r -/
def stopP : List Nat → Prop
  | [] => True
  | c :: _ => spq c
theorem e_run {L : List Nat} (hT : Txo L) (a : Int) {r : List Nat} (hr : stopP r) : ∀ (t : List Nat) (p : Nat), L.drop p = t ++ r → (∀ c ∈ t, ¬ spq c) → ∃ n, whl w_plain_end_1 l_plain_end_1 n (stE L a p) = .nx (stE L a (p + t.length))
  | [], p, h, hc => by
    rw [List.nil_append] at h
    cases r with
    | nil => exact ⟨1, whl_stop (we_out hT a (drop_nil h))⟩
    | cons c r =>
      obtain ⟨e1, _, _⟩ := drop_at h
      have hs : spq c := hr
      exact ⟨1, whl_stop (by rw [we_in hT a e1, decide_eq_true hs]; rfl)⟩
  | c :: t, p, h, hc => by
    obtain ⟨e1, h1, p1⟩ := drop_at (show L.drop p = c :: (t ++ r) from h)
    obtain ⟨n, e⟩ := e_run hT a hr t (p + 1) h1 fun d hd => hc d (by simp [hd])
    refine ⟨n + 1, ?_⟩
    rw [whl_step (by rw [we_in hT a e1, decide_eq_false (hc c (by simp))]; rfl) (be_run L a p), e, List.length_cons, show p + 1 + t.length = p + (t.length + 1) by omega]
theorem plain_run {L : List Nat} (hT : Txo L) {t r : List Nat} {p : Nat} (h : L.drop p = t ++ r) (hc : ∀ c ∈ t, ¬ spq c) (hr : stopP r) : r_plain_end [.val (.str (tx L)), .val (.int p)] = .ok (.val (.int ((p + t.length : Nat) : Int))) [.val (.str (tx L)), .val (.int p)] := by
  obtain ⟨n, e⟩ := e_run hT p hr t p h hc
  have hw := whl_S e
  unfold stE at hw
  generalize ((p + t.length : Nat) : Int) = E at *
  simp [r_plain_end, b_plain_end, hw]
/-! ### items of a line -/
inductive Itm
  | sp
  | qu (t : List Nat)
  | pl (t : List Nat)
def Itm.tx : Itm → List Nat
  | .sp => [32]
  | .qu t => 34 :: (esc t ++ [34])
  | .pl t => t
def itx (l : List Itm) : List Nat := l.flatMap Itm.tx
def pieceD (k : Str) (t : List Nat) (c : Nat) : DV := .tup [.str k, .str (Sy.tx t), .int (c : Nat)]
def due : Nat → List Itm → List DV
  | _, [] => []
  | p, .sp :: r => due (p + 1) r
  | p, .qu t :: r => pieceD "quoted" t (p + 1) :: due (p + (esc t).length + 2) r
  | p, .pl t :: r => pieceD "plain" t (p + 1) :: due (p + t.length) r
def okI : Bool → List Itm → Prop
  | _, [] => True
  | _, .sp :: r => okI false r
  | _, .qu _ :: r => okI false r
  | b, .pl t :: r => b = false ∧ t ≠ [] ∧ (∀ c ∈ t, ¬ spq c) ∧ okI true r
def lastI : Bool → List Itm → Bool
  | b, [] => b
  | _, .sp :: r => lastI false r
  | _, .qu _ :: r => lastI false r
  | _, .pl _ :: r => lastI true r
theorem okI_app : ∀ (x y : List Itm) (b : Bool), okI b (x ++ y) ↔ okI b x ∧ okI (lastI b x) y
  | [], y, b => by simp [okI, lastI]
  | .sp :: x, y, b => by simp [okI, lastI, okI_app x y]
  | .qu t :: x, y, b => by simp [okI, lastI, okI_app x y]
  | .pl t :: x, y, b => by simp [okI, lastI, okI_app x y, and_assoc]
theorem lastI_app : ∀ (x y : List Itm) (b : Bool), lastI b (x ++ y) = lastI (lastI b x) y
  | [], y, b => rfl
  | .sp :: x, y, b => by simp [lastI, lastI_app x y]
  | .qu t :: x, y, b => by simp [lastI, lastI_app x y]
  | .pl t :: x, y, b => by simp [lastI, lastI_app x y]
theorem itx_app (x y : List Itm) : itx (x ++ y) = itx x ++ itx y := by simp [itx]
theorem due_app : ∀ (x y : List Itm) (p : Nat), due p (x ++ y) = due p x ++ due (p + (itx x).length) y
  | [], y, p => by simp [due, itx]
  | .sp :: x, y, p => by simp [due, due_app x y, itx, Itm.tx]; congr 1; omega
  | .qu t :: x, y, p => by simp [due, due_app x y, itx, Itm.tx]; congr 1; omega
  | .pl t :: x, y, p => by simp [due, due_app x y, itx, Itm.tx]; congr 1; omega
theorem okI_stop {l : List Itm} {r : List Nat} (h : okI true l) (hr : stopP r) : stopP (itx l ++ r) := by
  cases l with
  | nil => exact hr
  | cons a l =>
    cases a with
    | sp => exact .inl rfl
    | qu t => exact .inr rfl
    | pl t => exact absurd h.1 (by simp)
end Cl
namespace Cl
open PySem PySem.Spec PyProof.Rows L2 Sy
/-! ### the signs of a line -/
def good (c : Nat) : Prop := 32 ≤ c ∧ c ≤ 126
instance (c : Nat) : Decidable (good c) := by unfold good; infer_instance
theorem lt_one (a b : Nat) : ([a] < [b]) ↔ a < b := by
  rw [List.cons_lt_cons_iff]
  simp
theorem sgn_run (c : Nat) : r_is_sign [.val (.str (tx [c]))] = .ok (.val (.bl (decide (good c)))) [.val (.str (tx [c]))] := by
  have l2 : ("~" : Str) = tx [126] := by rfl
  have h1 : leD (.str (tx [32])) (.str (tx [c])) = bl (decide (32 ≤ c)) := by
    rw [leD_tx]
    congr 1
    rw [Bool.eq_iff_iff]
    simp [lt_one]
  have h2 : leD (.str (tx [c])) (.str (tx [126])) = bl (decide (c ≤ 126)) := by
    rw [leD_tx]
    congr 1
    rw [Bool.eq_iff_iff]
    simp [lt_one]
  by_cases hc : 32 ≤ c
  · by_cases hc2 : c ≤ 126 <;> simp [r_is_sign, b_is_sign, ls, l2, h1, h2, hc, hc2, good]
  · simp [r_is_sign, b_is_sign, ls, l2, h1, h2, hc, good]
section
variable (L : List Nat) (num : Int) (cs : Nat → Addr)
theorem sign_ok : ∀ (l : List Nat) (i : Nat) (x2 x3 : Option MV), (∀ c ∈ l, good c) → ∃ y2 y3, loop (.tp [.nm 2, .nm 3]) (l_pieces_1 cs) (nums i l) [some (.val (.str (tx L))), some (.val (.int num)), x2, x3, none, none, none] = .nx [some (.val (.str (tx L))), some (.val (.int num)), y2, y3, none, none, none]
  | [], i, x2, x3, h => ⟨x2, x3, rfl⟩
  | c :: l, i, x2, x3, h => by
    obtain ⟨y2, y3, e⟩ := sign_ok l (i + 1) (some (.val (.int (i : Nat)))) (some (.val (.str (tx [c])))) fun d hd => h d (by simp [hd])
    refine ⟨y2, y3, ?_⟩
    have hg : good c := h c (by simp)
    have hs := sgn_run c
    rw [decide_eq_true hg] at hs
    have hb : l_pieces_1 cs [some (.val (.str (tx L))), some (.val (.int num)), some (.val (.int (i : Nat))), some (.val (.str (tx [c]))), none, none, none] = .nx [some (.val (.str (tx L))), some (.val (.int num)), some (.val (.int (i : Nat))), some (.val (.str (tx [c]))), none, none, none] := by
      simp [l_pieces_1, hs]
    rw [nums, loop]
    simp only [bindP_tp, bindPs_cons, bindP_nm, bindPs_nil, bindN_s, List.set_cons_succ, List.set_cons_zero, List.length_cons, List.length_nil]
    simp only [show 2 < 0 + 1 + 1 + 1 + 1 + 1 + 1 + 1 by omega, show 3 < 0 + 1 + 1 + 1 + 1 + 1 + 1 + 1 by omega, if_true, bindN_s, bindPs_cons, bindP_nm, bindPs_nil, List.set_cons_succ, List.set_cons_zero, List.length_cons, List.length_nil]
    rw [hb]
    exact e
theorem sign_bad : ∀ (g : List Nat) (b : Nat) (r : List Nat) (i : Nat) (x2 x3 : Option MV), (∀ c ∈ g, good c) → ¬ good b → ∃ y2 y3, loop (.tp [.nm 2, .nm 3]) (l_pieces_1 cs) (nums i (g ++ b :: r)) [some (.val (.str (tx L))), some (.val (.int num)), x2, x3, none, none, none] = .exc (exT num ((i + g.length : Nat) + 1) "sign" (cs 1)) [some (.val (.str (tx L))), some (.val (.int num)), y2, y3, none, none, none]
  | [], b, r, i, x2, x3, h, hb => by
    refine ⟨some (.val (.int (i : Nat))), some (.val (.str (tx [b]))), ?_⟩
    have hs := sgn_run b
    rw [decide_eq_false hb] at hs
    have hb : l_pieces_1 cs [some (.val (.str (tx L))), some (.val (.int num)), some (.val (.int (i : Nat))), some (.val (.str (tx [b]))), none, none, none] = .exc (exT num ((i : Nat) + 1) "sign" (cs 1)) [some (.val (.str (tx L))), some (.val (.int num)), some (.val (.int (i : Nat))), some (.val (.str (tx [b]))), none, none, none] := by
      simp [l_pieces_1, hs, exT]
    rw [List.nil_append, nums, loop]
    simp only [bindP_tp, bindPs_cons, bindP_nm, bindPs_nil, bindN_s, List.set_cons_succ, List.set_cons_zero, List.length_cons, List.length_nil]
    simp only [show 2 < 0 + 1 + 1 + 1 + 1 + 1 + 1 + 1 by omega, show 3 < 0 + 1 + 1 + 1 + 1 + 1 + 1 + 1 by omega, if_true, bindN_s, bindPs_cons, bindP_nm, bindPs_nil, List.set_cons_succ, List.set_cons_zero, List.length_cons, List.length_nil]
    rw [hb]
    rfl
  | c :: g, b, r, i, x2, x3, h, hb => by
    obtain ⟨y2, y3, e⟩ := sign_bad g b r (i + 1) (some (.val (.int (i : Nat)))) (some (.val (.str (tx [c])))) (fun d hd => h d (by simp [hd])) hb
    refine ⟨y2, y3, ?_⟩
    have hg : good c := h c (by simp)
    have hs := sgn_run c
    rw [decide_eq_true hg] at hs
    have hb : l_pieces_1 cs [some (.val (.str (tx L))), some (.val (.int num)), some (.val (.int (i : Nat))), some (.val (.str (tx [c]))), none, none, none] = .nx [some (.val (.str (tx L))), some (.val (.int num)), some (.val (.int (i : Nat))), some (.val (.str (tx [c]))), none, none, none] := by
      simp [l_pieces_1, hs]
    rw [List.cons_append, nums, loop]
    simp only [bindP_tp, bindPs_cons, bindP_nm, bindPs_nil, bindN_s, List.set_cons_succ, List.set_cons_zero, List.length_cons, List.length_nil]
    simp only [show 2 < 0 + 1 + 1 + 1 + 1 + 1 + 1 + 1 by omega, show 3 < 0 + 1 + 1 + 1 + 1 + 1 + 1 + 1 by omega, if_true, bindN_s, bindPs_cons, bindP_nm, bindPs_nil, List.set_cons_succ, List.set_cons_zero, List.length_cons, List.length_nil]
    rw [hb]
    show loop _ _ _ _ = _
    rw [e, show i + 1 + g.length = i + (g.length + 1) by omega]
    all_goals rfl
end
/-! ### one turn -/
def stP (L : List Nat) (num : Int) (p : Nat) (x3 : Option MV) (F : List DV) (x5 x6 : Option MV) : Sl := [some (.val (.str (tx L))), some (.val (.int num)), some (.val (.int p)), x3, some (.lst F), x5, x6]
section
variable {L : List Nat} (hT : Txo L) (num : Int) (cs : Nat → Addr) {x3 : Option MV} {F : List DV} {x5 x6 : Option MV} {p : Nat}
include hT
theorem wp_in (h : p < L.length) : w_pieces_1 (stP L num p x3 F x5 x6) = .ok true (stP L num p x3 F x5 x6) := by
  have hln := lenD_tx hT.line
  have hlt : ((p : Int) < (L.length : Int)) := by omega
  simp [w_pieces_1, stP, hln, hlt]
theorem wp_out (h : L.length ≤ p) : w_pieces_1 (stP L num p x3 F x5 x6) = .ok false (stP L num p x3 F x5 x6) := by
  have hln := lenD_tx hT.line
  have hlt : ¬ ((p : Int) < (L.length : Int)) := by omega
  simp [w_pieces_1, stP, hln, hlt]
theorem t_sp {r : List Nat} (h : L.drop p = 32 :: r) : l_pieces_2 cs (stP L num p x3 F x5 x6) = .nx (stP L num (p + 1) x3 F x5 x6) := by
  obtain ⟨e, _, _⟩ := drop_at h
  have hix := ixD_tx (i := (p : Int)) hT.line
  rw [atI_n, e] at hix
  have heq := eqD_tx (Txo.one (show 32 ≤ 127 by omega)) (Txo.one (show 32 ≤ 127 by omega))
  have i1 : (p : Int) + 1 = ((p + 1 : Nat) : Int) := by omega
  unfold stP
  rw [← i1]
  simp [l_pieces_2, hix, ls, heq]
theorem t_qu {t r : List Nat} (h : L.drop p = 34 :: (esc t ++ 34 :: r)) (hF : F.length ≤ 1000) : ∃ y5 y6, l_pieces_2 cs (stP L num p x3 F x5 x6) = .nx (stP L num (p + (esc t).length + 2) x3 (F ++ [pieceD "quoted" t (p + 1)]) y5 y6) := by
  obtain ⟨e, _, _⟩ := drop_at h
  have hix := ixD_tx (i := (p : Int)) hT.line
  rw [atI_n, e] at hix
  have h1 := eqD_tx (Txo.one (show 34 ≤ 127 by omega)) (Txo.one (show 32 ≤ 127 by omega))
  have h2 := eqD_tx (Txo.one (show 34 ≤ 127 by omega)) (Txo.one (show 34 ≤ 127 by omega))
  have d1 : decide ([34] = [32]) = false := by decide
  rw [d1] at h1
  have hq := quoted_ok hT num cs h
  have i1 : (p : Int) + 1 = ((p + 1 : Nat) : Int) := by omega
  have hl : F.length ≤ 10000000 := by omega
  refine ⟨some (.val (.str (tx t))), some (.val (.int ((p + (esc t).length + 2 : Nat) : Int))), ?_⟩
  unfold stP pieceD
  rw [← i1]
  generalize ((p + (esc t).length + 2 : Nat) : Int) = E at *
  simp [l_pieces_2, hix, ls, lq, h1, h2, hq, hl]
theorem t_bad {r : List Nat} {x : Exc} (h : L.drop p = 34 :: r) (hq : r_quoted cs [.val (.str (tx L)), .val (.int p), .val (.int num)] = .exc x [.val (.str (tx L)), .val (.int p), .val (.int num)]) : l_pieces_2 cs (stP L num p x3 F x5 x6) = .exc x (stP L num p x3 F x5 x6) := by
  obtain ⟨e, _, _⟩ := drop_at h
  have hix := ixD_tx (i := (p : Int)) hT.line
  rw [atI_n, e] at hix
  have h1 := eqD_tx (Txo.one (show 34 ≤ 127 by omega)) (Txo.one (show 32 ≤ 127 by omega))
  have h2 := eqD_tx (Txo.one (show 34 ≤ 127 by omega)) (Txo.one (show 34 ≤ 127 by omega))
  have d1 : decide ([34] = [32]) = false := by decide
  rw [d1] at h1
  unfold stP
  simp [l_pieces_2, hix, ls, lq, h1, h2, hq]
theorem t_pl {t r : List Nat} (h : L.drop p = t ++ r) (h0 : t ≠ []) (hc : ∀ c ∈ t, ¬ spq c) (hr : stopP r) (hF : F.length ≤ 1000) : ∃ y5 y6, l_pieces_2 cs (stP L num p x3 F x5 x6) = .nx (stP L num (p + t.length) x3 (F ++ [pieceD "plain" t (p + 1)]) y5 y6) := by
  have hq := plain_run hT h hc hr
  have hsl : (L.drop p).take t.length = t := by rw [h, List.take_left]
  cases t with
  | nil => exact absurd rfl h0
  | cons c t =>
    obtain ⟨e, _, _⟩ := drop_at (show L.drop p = c :: (t ++ r) from h)
    have hix := ixD_tx (i := (p : Int)) hT.line
    rw [atI_n, e] at hix
    have h1 := eqD_tx (at1 hT e) (Txo.one (show 32 ≤ 127 by omega))
    have h2 := eqD_tx (at1 hT e) (Txo.one (show 34 ≤ 127 by omega))
    have hcc := hc c (by simp)
    have d1 : decide ([c] = [32]) = false := decide_eq_false fun z => hcc (.inl (by simpa using z))
    have d2 : decide ([c] = [34]) = false := decide_eq_false fun z => hcc (.inr (by simpa using z))
    rw [d1] at h1
    rw [d2] at h2
    have hs := slD_tx (lo := some (p : Int)) (hi := some ((p + (c :: t).length : Nat) : Int)) hT.line
    rw [cutL_mid, show p + (c :: t).length - p = (c :: t).length by omega, hsl] at hs
    have i1 : (p : Int) + 1 = ((p + 1 : Nat) : Int) := by omega
    have hl : F.length ≤ 10000000 := by omega
    refine ⟨x5, some (.val (.int ((p + (c :: t).length : Nat) : Int))), ?_⟩
    unfold stP pieceD
    rw [← i1]
    generalize ((p + (c :: t).length : Nat) : Int) = E at *
    generalize tx (c :: t) = T at *
    simp [l_pieces_2, hix, ls, lq, h1, h2, hq, hl, hs]
theorem p_run {P : SRes → Prop} {r : List Nat} (hr : stopP r) : ∀ (l : List Itm) (b : Bool) (p : Nat) (F : List DV) (x5 x6 : Option MV), okI b l → L.drop p = itx l ++ r → F.length ≤ p →
    (∀ y5 y6, ∃ n, P (whl w_pieces_1 (l_pieces_2 cs) n (stP L num (p + (itx l).length) x3 (F ++ due p l) y5 y6))) → ∃ n, P (whl w_pieces_1 (l_pieces_2 cs) n (stP L num p x3 F x5 x6))
  | [], b, p, F, x5, x6, hk, h, hF, hp => by simpa [itx, due] using hp x5 x6
  | .sp :: l, b, p, F, x5, x6, hk, h, hF, hp => by
    have h' : L.drop p = 32 :: (itx l ++ r) := h
    obtain ⟨_, h1, p1⟩ := drop_at h'
    obtain ⟨n, e⟩ := p_run hr l false (p + 1) F x5 x6 hk h1 (by omega) fun y5 y6 => by
      have := hp y5 y6
      simpa [itx, Itm.tx, due, Nat.add_assoc, Nat.add_comm, Nat.add_left_comm] using this
    exact ⟨n + 1, by rw [whl_step (wp_in hT num p1) (t_sp hT num cs h')]; exact e⟩
  | .qu t :: l, b, p, F, x5, x6, hk, h, hF, hp => by
    have h' : L.drop p = 34 :: (esc t ++ 34 :: (itx l ++ r)) := by rw [h]; simp [itx, Itm.tx]
    obtain ⟨_, _, p1⟩ := drop_at h'
    have hl := hT.len
    obtain ⟨y5, y6, e1⟩ := t_qu (x3 := x3) (x5 := x5) (x6 := x6) hT num cs (F := F) h' (by omega)
    have h1 : L.drop (p + (esc t).length + 2) = itx l ++ r := by
      have := congrArg (List.drop ((esc t).length + 2)) h'
      rw [List.drop_drop, show p + ((esc t).length + 2) = p + (esc t).length + 2 by omega] at this
      rw [this]
      simp
    obtain ⟨n, e⟩ := p_run hr l false (p + (esc t).length + 2) (F ++ [pieceD "quoted" t (p + 1)]) y5 y6 hk h1 (by simp; omega) fun y5 y6 => by
      have := hp y5 y6
      have e1 : p + (itx (.qu t :: l)).length = p + (esc t).length + 2 + (itx l).length := by simp [itx, Itm.tx]; omega
      rw [e1] at this
      simpa [due] using this
    exact ⟨n + 1, by rw [whl_step (wp_in hT num p1) e1]; exact e⟩
  | .pl t :: l, b, p, F, x5, x6, hk, h, hF, hp => by
    obtain ⟨_, h0, hc, hk2⟩ := hk
    have h' : L.drop p = t ++ (itx l ++ r) := by rw [h]; simp [itx, Itm.tx]
    have p1 : p < L.length := by
      cases t with
      | nil => exact absurd rfl h0
      | cons c t => exact (drop_at (show L.drop p = c :: (t ++ (itx l ++ r)) from h')).2.2
    have hl := hT.len
    obtain ⟨y5, y6, e1⟩ := t_pl (x3 := x3) (x5 := x5) (x6 := x6) hT num cs (F := F) h' h0 hc (okI_stop hk2 hr) (by omega)
    have h1 : L.drop (p + t.length) = itx l ++ r := by
      have := congrArg (List.drop t.length) h'
      rw [List.drop_drop, List.drop_left] at this
      exact this
    have t1 : 1 ≤ t.length := List.length_pos_iff.mpr h0
    obtain ⟨n, e⟩ := p_run hr l true (p + t.length) (F ++ [pieceD "plain" t (p + 1)]) y5 y6 hk2 h1 (by simp; omega) fun y5 y6 => by
      have := hp y5 y6
      have e1 : p + (itx (.pl t :: l)).length = p + t.length + (itx l).length := by simp [itx, Itm.tx]; omega
      rw [e1] at this
      simpa [due] using this
    exact ⟨n + 1, by rw [whl_step (wp_in hT num p1) e1]; exact e⟩
end
end Cl
namespace Cl
open PySem PySem.Spec PyProof.Rows L2 Sy
/-! ### pieces -/
section
variable {L : List Nat} (hT : Txo L) (num : Int) (cs : Nat → Addr)
include hT
theorem pieces_sign {g r : List Nat} {b : Nat} (h : L = g ++ b :: r) (hg : ∀ c ∈ g, good c) (hb : ¬ good b) :
    r_pieces cs [.val (.str (tx L)), .val (.int num)] = .exc (exT num ((g.length : Int) + 1) "sign" (cs 1)) [.val (.str (tx L)), .val (.int num)] := by
  obtain ⟨y2, y3, e⟩ := sign_bad L num cs g b r 0 none none hg hb
  rw [← h, Nat.zero_add] at e
  have hn := nums_eq L
  generalize nums 0 L = NL at *
  simp [r_pieces, b_pieces, hn, e]
theorem pieces_ok {l : List Itm} (h : L = itx l) (hk : okI false l) (hg : ∀ c ∈ L, good c) :
    r_pieces cs [.val (.str (tx L)), .val (.int num)] = .ok (.lst (due 0 l)) [.val (.str (tx L)), .val (.int num)] := by
  obtain ⟨y2, y3, e⟩ := sign_ok L num cs L 0 none none hg
  have hn := nums_eq L
  obtain ⟨n, y5, y6, ew⟩ := p_run hT num cs (x3 := y3) (P := fun s => ∃ y5 y6, s = .nx (stP L num L.length y3 (due 0 l) y5 y6)) (r := []) trivial l false 0 [] none none hk (by simpa using h) (by simp) fun y5 y6 => ⟨1, y5, y6, by
    rw [Nat.zero_add, ← h, List.nil_append]
    exact whl_stop (wp_out hT num (Nat.le_refl _))⟩
  have hw := whl_S ew
  unfold stP at hw
  rw [Int.ofNat_zero] at hw
  generalize nums 0 L = NL at *
  generalize due 0 l = DL at *
  generalize ((L.length : Nat) : Int) = E at *
  simp [r_pieces, b_pieces, hn, e, hw]
theorem pieces_q {l : List Itm} {w : List Nat} {x : Exc} (h : L = itx l ++ 34 :: w) (hk : okI false l) (hg : ∀ c ∈ L, good c)
    (hq : r_quoted cs [.val (.str (tx L)), .val (.int (itx l).length), .val (.int num)] = .exc x [.val (.str (tx L)), .val (.int (itx l).length), .val (.int num)]) :
    r_pieces cs [.val (.str (tx L)), .val (.int num)] = .exc x [.val (.str (tx L)), .val (.int num)] := by
  obtain ⟨y2, y3, e⟩ := sign_ok L num cs L 0 none none hg
  have hn := nums_eq L
  have hd : L.drop (itx l).length = 34 :: w := by rw [h, List.drop_left]
  obtain ⟨_, _, p1⟩ := drop_at hd
  obtain ⟨n, y5, y6, ew⟩ := p_run hT num cs (x3 := y3) (P := fun s => ∃ y5 y6, s = .exc x (stP L num (itx l).length y3 (due 0 l) y5 y6)) (r := 34 :: w) (.inr rfl) l false 0 [] none none hk (by simpa using h) (by simp) fun y5 y6 => ⟨1, y5, y6, by
    rw [Nat.zero_add, List.nil_append]
    exact whl_exc (wp_in hT num p1) (t_bad hT num cs hd hq)⟩
  have hw : S.whl _ _ _ = _ := whl_eq n ew (by simp)
  unfold stP at hw
  rw [Int.ofNat_zero] at hw
  generalize nums 0 L = NL at *
  generalize due 0 l = DL at *
  generalize (((itx l).length : Nat) : Int) = E at *
  simp [r_pieces, b_pieces, hn, e, hw]
/-! ### what the law is told -/
theorem told_exc {col : Int} {r : Str} (h : r_pieces cs [.val (.str (tx L)), .val (.int num)] = .exc (exT num col r (cs 1)) [.val (.str (tx L)), .val (.int num)]) :
    r_law_told cs [.val (.str (tx L)), .val (.int num)] = .ok (.val (.tup [.int num, .int col, .str r])) [.val (.str (tx L)), .val (.int num)] := by
  unfold exT at h
  simp [r_law_told, b_law_told, h]
theorem told_ok {F : List DV} (h : r_pieces cs [.val (.str (tx L)), .val (.int num)] = .ok (.lst F) [.val (.str (tx L)), .val (.int num)]) :
    r_law_told cs [.val (.str (tx L)), .val (.int num)] = .ok (.lst F) [.val (.str (tx L)), .val (.int num)] := by
  simp [r_law_told, b_law_told, h]
end
/-! ### the two ways in which a string does not end well -/
theorem quoted_bad {L : List Nat} (hT : Txo L) (num : Int) (cs : Nat → Addr) {t r : List Nat} {at_ c : Nat} (h : L.drop at_ = 34 :: (esc t ++ 92 :: c :: r)) (hc : ¬ (c = 34 ∨ c = 92)) :
    r_quoted cs [.val (.str (tx L)), .val (.int at_), .val (.int num)] = .exc (exT num ((at_ + 1 + (esc t).length : Nat) + 1) "quoted" (cs 1)) [.val (.str (tx L)), .val (.int at_), .val (.int num)] := by
  have hl := hT.len
  obtain ⟨e1, h1, p1⟩ := drop_at h
  have hd : L.drop (at_ + 1 + (esc t).length) = 92 :: c :: r := by
    have := congrArg (List.drop (esc t).length) h1
    rw [List.drop_drop, List.drop_left] at this
    exact this
  obtain ⟨e2, h2, p2⟩ := drop_at hd
  obtain ⟨e3, _, p3⟩ := drop_at h2
  have hu : (ones t).length ≤ 1000 := by
    have := esc_len t
    simp [ones]; omega
  obtain ⟨s, eb, es⟩ := bq_bad hT at_ num cs (u := ones t) e2 e3 hc hu
  obtain ⟨n, e⟩ := q_run hT at_ num cs (res := .exc (exT num ((at_ + 1 + (esc t).length : Nat) + 1) "quoted" (cs 1)) s) t [] (at_ + 1) h1 (by simp) ⟨1, by
    rw [List.nil_append]
    exact whl_exc (by rw [wq_in hT at_ num e2]; rfl) eb⟩
  exact quoted_exc hT num cs ⟨s, whl_eq n e (by simp), _, _, es⟩
theorem quoted_open {L : List Nat} (hT : Txo L) (num : Int) (cs : Nat → Addr) {t : List Nat} {at_ : Nat} (h : L.drop at_ = 34 :: esc t) :
    r_quoted cs [.val (.str (tx L)), .val (.int at_), .val (.int num)] = .exc (exT num ((at_ : Int) + 1) "quoted" (cs 1)) [.val (.str (tx L)), .val (.int at_), .val (.int num)] := by
  have hl := hT.len
  obtain ⟨e1, h1, p1⟩ := drop_at h
  have hd : L.drop (at_ + 1 + (esc t).length) = [] := by
    have := congrArg (List.drop (esc t).length) h1
    rw [List.drop_drop, List.drop_length] at this
    exact this
  have p2 := drop_nil hd
  obtain ⟨n, e⟩ := q_run hT at_ num cs (res := .nx (stQ L at_ num (ones t) (at_ + 1 + (esc t).length))) (r := []) t [] (at_ + 1) (by simpa using h1) (by simp) ⟨1, by
    rw [List.nil_append]
    exact whl_stop (wq_out hT at_ num p2)⟩
  exact quoted_out hT num cs (whl_S e) p2
theorem quoted_back {L : List Nat} (hT : Txo L) (num : Int) (cs : Nat → Addr) {t : List Nat} {at_ : Nat} (h : L.drop at_ = 34 :: (esc t ++ [92])) :
    r_quoted cs [.val (.str (tx L)), .val (.int at_), .val (.int num)] = .exc (exT num ((at_ : Int) + 1) "quoted" (cs 1)) [.val (.str (tx L)), .val (.int at_), .val (.int num)] := by
  have hl := hT.len
  obtain ⟨e1, h1, p1⟩ := drop_at h
  have hd : L.drop (at_ + 1 + (esc t).length) = [92] := by
    have := congrArg (List.drop (esc t).length) h1
    rw [List.drop_drop, List.drop_left] at this
    exact this
  obtain ⟨e2, h2, p2⟩ := drop_at hd
  have p3 := drop_nil h2
  have hu : (ones t).length ≤ 1000 := by
    have := esc_len t
    simp [ones]; omega
  obtain ⟨n, e⟩ := q_run hT at_ num cs (res := .nx (stQ L at_ num (ones t ++ [[]]) (at_ + 1 + (esc t).length + 2))) t [] (at_ + 1) h1 (by simp) ⟨2, by
    rw [List.nil_append, whl_step (by rw [wq_in hT at_ num e2]; rfl) (bq_end hT at_ num cs e2 (by omega) hu)]
    exact whl_stop (wq_out hT at_ num (by omega))⟩
  exact quoted_out hT num cs (whl_S e) (by omega)
end Cl
namespace Cl
open PySem PySem.Spec PyProof.Rows L2 Sy
/-! ### the drawn state -/
@[simp] theorem ixN_5_1 : ixN 5 1 = some 1 := ixN_n (n := 5) (k := 1) (by omega)
@[simp] theorem ixN_5_2 : ixN 5 2 = some 2 := ixN_n (n := 5) (k := 2) (by omega)
@[simp] theorem ixN_5_3 : ixN 5 3 = some 3 := ixN_n (n := 5) (k := 3) (by omega)
@[simp] theorem ixN_5_4 : ixN 5 4 = some 4 := ixN_n (n := 5) (k := 4) (by omega)
def St5 (l : List DV) : Prop := ∃ (xs : List Int) (i : Nat) (v s n : Int), l = [.lst (xs.map DV.int), .int i, .int v, .int s, .int n]
theorem state_ok (ns : List Int) (hl : ns.length ≤ 1000) : ∃ l, St5 l ∧ r_law_state [.val (.scr (ns.map .int))] = .ok (.lst l) [.val (.scr (ns.map .int))] := by
  refine ⟨_, ⟨ns, 0, 0, 1, 0, rfl⟩, ?_⟩
  have g : (ns.map DV.int).length ≤ 10000000 := by simp; omega
  simp only [Int.ofNat_zero]
  generalize ns.map DV.int = X at *
  simp [r_law_state, b_law_state, g]
theorem draw_ok {l : List DV} {most : Int} (h : St5 l) (h1 : 1 ≤ most) (h2 : most ≤ 1000000) : ∃ r l', St5 l' ∧ 0 ≤ r ∧ r < most ∧ r_law_draw [.lst l, .val (.int most)] = .ok (.val (.int r)) [.lst l', .val (.int most)] := by
  obtain ⟨xs, i, v, s, n, rfl⟩ := h
  have m0 : ¬ most = 0 := by omega
  have m1 : most.natAbs < 1073741824 := by omega
  have mp : 0 < most := by omega
  have i1 : (i : Int) + 1 = ((i + 1 : Nat) : Int) := by omega
  by_cases c : 0 < n ∧ 0 < v
  · obtain ⟨c1, c2⟩ := c
    refine ⟨v.fmod most, _, ⟨xs, i, v.fdiv most, s, n - 1, rfl⟩, Int.fmod_nonneg_of_pos v mp, Int.fmod_lt_of_pos v mp, ?_⟩
    generalize xs.map DV.int = X at *
    simp [r_law_draw, b_law_draw, c1, c2, m0, m1]
  · obtain ⟨cell, hc⟩ : ∃ cell : Int, ∀ (X : List DV), X = xs.map DV.int → ((i : Int) < (X.length : Int) ∧ atI X (i : Int) = some (.int cell)) ∨ (¬ (i : Int) < (X.length : Int) ∧ cell = s + 7919 * i) := by
      by_cases hi : i < xs.length
      · refine ⟨xs[i], fun X hX => .inl ⟨by rw [hX]; simp; omega, ?_⟩⟩
        rw [hX, atI_n, List.getElem?_map, List.getElem?_eq_getElem hi]
        rfl
      · exact ⟨_, fun X hX => .inr ⟨by rw [hX]; simp; omega, rfl⟩⟩
    have fin : ∀ X : List DV, X = xs.map DV.int → ∃ r l', St5 l' ∧ 0 ≤ r ∧ r < most ∧ r_law_draw [.lst [.lst X, .int i, .int v, .int s, .int n], .val (.int most)] = .ok (.val (.int r)) [.lst l', .val (.int most)] := by
      intro X hX
      have hc := hc X hX
      obtain ⟨F, hF⟩ : ∃ F : Int, F = (cell * 48271 + ((i : Int) + 1) * 69621 + s).fmod 2147483647 := ⟨_, rfl⟩
      have F0 : 0 ≤ F := by rw [hF]; exact Int.fmod_nonneg_of_pos _ (by omega)
      have F1 : F < 2147483647 := by rw [hF]; exact Int.fmod_lt_of_pos _ (by omega)
      have hs : smallI F := smallI_of (by omega) (by omega)
      by_cases big : (1000000000000000000 : Int) ≤ cell
      · refine ⟨cell.fmod most, [.lst X, .int ((i : Int) + 1), .int (cell.fdiv most), .int s, .int 60], ⟨xs, i + 1, _, _, _, by rw [hX, i1]⟩, Int.fmod_nonneg_of_pos _ mp, Int.fmod_lt_of_pos _ mp, ?_⟩
        rcases hc with ⟨a, b⟩ | ⟨a, b⟩
        · by_cases c1 : 0 < n
          · have c2 : ¬ 0 < v := fun z => c ⟨c1, z⟩
            simp [r_law_draw, b_law_draw, c1, c2, m0, m1, a, b, big]
          · simp [r_law_draw, b_law_draw, c1, m0, m1, a, b, big]
        · rw [b] at big ⊢
          by_cases c1 : 0 < n
          · have c2 : ¬ 0 < v := fun z => c ⟨c1, z⟩
            simp [r_law_draw, b_law_draw, c1, c2, m0, m1, a, big]
          · simp [r_law_draw, b_law_draw, c1, m0, m1, a, big]
      · refine ⟨(((F * 16807 + F * F + 11).fmod 2147483629).fdiv 3).fmod most, [.lst X, .int ((i : Int) + 1), .int v, .int ((F * 16807 + F * F + 11).fmod 2147483629), .int n], ⟨xs, i + 1, _, _, _, by rw [hX, i1]⟩, Int.fmod_nonneg_of_pos _ mp, Int.fmod_lt_of_pos _ mp, ?_⟩
        rcases hc with ⟨a, b⟩ | ⟨a, b⟩
        · by_cases c1 : 0 < n
          · have c2 : ¬ 0 < v := fun z => c ⟨c1, z⟩
            simp [r_law_draw, b_law_draw, c1, c2, m0, m1, a, b, big, ← hF, hs]
          · simp [r_law_draw, b_law_draw, c1, m0, m1, a, b, big, ← hF, hs]
        · rw [b] at big hF
          by_cases c1 : 0 < n
          · have c2 : ¬ 0 < v := fun z => c ⟨c1, z⟩
            simp [r_law_draw, b_law_draw, c1, c2, m0, m1, a, big, ← hF, hs]
          · simp [r_law_draw, b_law_draw, c1, m0, m1, a, big, ← hF, hs]
    exact fin _ rfl
/-! ### what is written -/
theorem esc_app (a b : List Nat) : esc (a ++ b) = esc a ++ esc b := by
  induction a with
  | nil => rfl
  | cons c a ih => rw [List.cons_append, esc, esc, ih, List.append_assoc]
theorem esc_le (t : List Nat) : (esc t).length ≤ 2 * t.length := by
  induction t with
  | nil => simp [esc]
  | cons c t ih =>
    rw [esc, List.length_append, List.length_cons]
    split <;> simp <;> omega
theorem esc_mem {t : List Nat} {c : Nat} (h : c ∈ esc t) : c ∈ t ∨ c = 92 := by
  induction t with
  | nil => simp [esc] at h
  | cons d t ih =>
    rw [esc, List.mem_append] at h
    rcases h with h | h
    · split at h
      · simp at h
        rcases h with h | h
        · exact .inr h
        · exact .inl (by simp [h])
      · simp at h
        exact .inl (by simp [h])
    · rcases ih h with h | h
      · exact .inl (by simp [h])
      · exact .inr h
theorem esc_txo {t : List Nat} (h : Txo t) (hl : t.length ≤ 100) : Txo (esc t) := ⟨by have := esc_le t; omega, fun c hc => (esc_mem hc).elim (h.le c) (by omega)⟩
theorem wr_loop (T : List Nat) : ∀ (l w : List Nat) (x2 : Option MV), (∀ c ∈ l, c ≤ 127) → Txo w → w.length + 2 * l.length ≤ 1000 → ∃ y2, loop (.nm 2) l_law_quoted_1 (l.map fun c => DV.str (tx [c])) [some (.val (.str (tx T))), some (.val (.str (tx w))), x2] = .nx [some (.val (.str (tx T))), some (.val (.str (tx (w ++ esc l)))), y2]
  | [], w, x2, h, hw, hl => ⟨x2, by simp [loop, esc]⟩
  | c :: l, w, x2, h, hw, hl => by
    rw [List.length_cons] at hl
    have hc : c ≤ 127 := h c (by simp)
    have h1 := eqD_tx (Txo.one hc) (Txo.one (show 34 ≤ 127 by omega))
    have h2 := eqD_tx (Txo.one hc) (Txo.one (show 92 ≤ 127 by omega))
    have d1 : decide ([c] = [34]) = decide (c = 34) := by simp
    have d2 : decide ([c] = [92]) = decide (c = 92) := by simp
    rw [d1] at h1
    rw [d2] at h2
    have hlw := hw.len
    by_cases hs : c = 34 ∨ c = 92
    · obtain ⟨y2, e⟩ := wr_loop T l (w ++ [92] ++ [c]) (some (.val (.str (tx [c])))) (fun d hd => h d (by simp [hd])) ((hw.app (Txo.one (by omega)) (by simp; omega)).app (Txo.one hc) (by simp; omega)) (by simp; omega)
      refine ⟨y2, ?_⟩
      have a1 := addD_tx (a := w) (b := [92]) (le_size (by simp; omega))
      have a2 := addD_tx (a := w ++ [92]) (b := [c]) (le_size (by simp; omega))
      have hb : l_law_quoted_1 [some (.val (.str (tx T))), some (.val (.str (tx w))), some (.val (.str (tx [c])))] = .nx [some (.val (.str (tx T))), some (.val (.str (tx (w ++ [92] ++ [c])))), some (.val (.str (tx [c])))] := by
        rcases hs with rfl | rfl <;> simp [l_law_quoted_1, lq, lb, h1, h2, a1, a2]
      have he : w ++ esc (c :: l) = w ++ [92] ++ [c] ++ esc l := by rw [esc, if_pos hs]; simp
      rw [he, List.map_cons, loop, bindP_nm, if_pos (by simp)]
      simp only [List.set_cons_succ, List.set_cons_zero]
      rw [hb]
      exact e
    · obtain ⟨y2, e⟩ := wr_loop T l (w ++ [c]) (some (.val (.str (tx [c])))) (fun d hd => h d (by simp [hd])) (hw.app (Txo.one hc) (by simp; omega)) (by simp; omega)
      refine ⟨y2, ?_⟩
      have a2 := addD_tx (a := w) (b := [c]) (le_size (by simp; omega))
      have n1 : ¬ c = 34 := fun z => hs (.inl z)
      have n2 : ¬ c = 92 := fun z => hs (.inr z)
      rw [decide_eq_false n1] at h1
      rw [decide_eq_false n2] at h2
      have hb : l_law_quoted_1 [some (.val (.str (tx T))), some (.val (.str (tx w))), some (.val (.str (tx [c])))] = .nx [some (.val (.str (tx T))), some (.val (.str (tx (w ++ [c])))), some (.val (.str (tx [c])))] := by
        simp [l_law_quoted_1, lq, lb, h1, h2, a2]
      have he : w ++ esc (c :: l) = w ++ [c] ++ esc l := by rw [esc, if_neg hs]; simp
      rw [he, List.map_cons, loop, bindP_nm, if_pos (by simp)]
      simp only [List.set_cons_succ, List.set_cons_zero]
      rw [hb]
      exact e
theorem wr_run {t : List Nat} (h : Txo t) (hl : t.length ≤ 100) : r_law_quoted [.val (.str (tx t))] = .ok (.val (.str (tx (34 :: (esc t ++ [34]))))) [.val (.str (tx t))] := by
  obtain ⟨y2, e⟩ := wr_loop t t [] none h.le Txo.nil (by simp; omega)
  have e0 : ("" : Str) = tx [] := by rfl
  have hc := chars_tx t
  have := esc_le t
  have a1 := addD_tx (a := [34]) (b := esc t) (le_size (by simp; omega))
  have a2 := addD_tx (a := [34] ++ esc t) (b := [34]) (le_size (by simp; omega))
  rw [List.nil_append] at e
  have e3 : [34] ++ esc t ++ [34] = 34 :: (esc t ++ [34]) := by simp
  rw [e3] at a2
  generalize (t.map fun c => DV.str (tx [c])) = TT at *
  simp [r_law_quoted, b_law_quoted, e0, hc, e, lq, a1]
  simp at a2
  simp [a2]
/-! ### a piece -/
theorem pick_loop {body : SM} {s : List Nat} {y0 : Option MV} (hs : s.length = 6) (ht : Txo s) (hb : ∀ (l : List DV) (t : List Nat) (r : Nat) (l' : List DV) (y : Option MV), St5 l' → r < 6 → t.length ≤ 10 → (r_law_draw [.lst l, .val (.int 6)] = .ok (.val (.int r)) [.lst l', .val (.int 6)]) → body [some (.lst l), some (.val (.str (tx t))), y] = .nx [some (.lst l'), some (.val (.str (tx (t ++ [s.getD r 0])))), y])
    {l : List DV} (hl : St5 l) {n : Int} (h0 : 0 ≤ n) (h1 : n ≤ 5) :
    ∃ (t : List Nat) (l' : List DV) (y : Option MV), St5 l' ∧ (∀ c ∈ t, c ∈ s) ∧ t.length = n.toNat ∧ loop (.nm 2) body (ups 0 n) [some (.lst l), some (.val (.str (tx []))), y0] = .nx [some (.lst l'), some (.val (.str (tx t))), y] := by
  obtain ⟨st, e, t, l2, y, hd2, hmem, hlen, rfl⟩ := loop_inv (p := .nm 2) (b := body) (fun k st => ∃ (t : List Nat) (l2 : List DV) (y : Option MV), St5 l2 ∧ (∀ c ∈ t, c ∈ s) ∧ t.length = k ∧ st = [some (.lst l2), some (.val (.str (tx t))), y]) (ups 0 n) 0
    [some (.lst l), some (.val (.str (tx []))), y0] ⟨[], l, y0, hl, by simp, rfl, rfl⟩ (by
    rintro i d st hd' ⟨t, l2, y, hd2, hmem, hlen, rfl⟩
    obtain ⟨rfl, hi⟩ := ups_get hd'
    obtain ⟨r, l3, hd3, r0, r1, e3⟩ := draw_ok (most := 6) hd2 (by omega) (by omega)
    obtain ⟨r, rfl⟩ : ∃ q : Nat, r = q := ⟨r.toNat, by omega⟩
    have hr : r < 6 := by omega
    refine ⟨[some (.lst l2), some (.val (.str (tx t))), some (.val (.int ((0 : Int) + i)))], _, by rw [bindP_nm, if_pos (by simp)]; all_goals rfl, .inl (hb l2 t r l3 _ hd3 hr (by omega) e3), _, _, _, hd3, fun c hc => ?_, by simp; omega, rfl⟩
    rcases List.mem_append.mp hc with hc | hc
    · exact hmem c hc
    · simp at hc
      subst hc
      rw [List.getElem?_eq_getElem (by omega : r < s.length)]
      exact List.getElem_mem _)
  rw [ups_len, Nat.zero_add] at hlen
  exact ⟨t, l2, y, hd2, hmem, by omega, e⟩
def alQ : List Nat := [97, 32, 34, 92, 61, 126]
def alP : List Nat := [97, 49, 45, 61, 92, 94]
theorem lalQ : ("a \"\\=~" : Str) = tx alQ := by rfl
theorem lalP : ("a1-=\\^" : Str) = tx alP := by rfl
theorem at_six {s : List Nat} (hs : s.length = 6) (ht : Txo s) {r : Nat} (hr : r < 6) : ixD (.str (tx s)) (.int (r : Int)) = some (.val (.str (tx [s.getD r 0]))) := by
  rw [ixD_tx ht.line, atI_n, List.getElem?_eq_getElem (by omega : r < s.length), List.getD_eq_getElem?_getD, List.getElem?_eq_getElem (by omega : r < s.length)]
  rfl
theorem alQ_ok : Txo alQ := ⟨by decide, by decide⟩
theorem alP_ok : Txo alP := ⟨by decide, by decide⟩
theorem bodyQ (l : List DV) (t : List Nat) (r : Nat) (l' : List DV) (y : Option MV) (_ : St5 l') (hr : r < 6) (hl : t.length ≤ 10) (e : r_law_draw [.lst l, .val (.int 6)] = .ok (.val (.int r)) [.lst l', .val (.int 6)]) : l_law_piece_1 [some (.lst l), some (.val (.str (tx t))), y] = .nx [some (.lst l'), some (.val (.str (tx (t ++ [alQ.getD r 0])))), y] := by
  have hix := at_six (s := alQ) rfl alQ_ok hr
  have ha := addD_tx (a := t) (b := [alQ.getD r 0]) (le_size (by simp; omega))
  generalize alQ.getD r 0 = c at *
  generalize (r : Int) = R at *
  simp [l_law_piece_1, e, lalQ, hix, ha]
theorem bodyP (l : List DV) (t : List Nat) (r : Nat) (l' : List DV) (y : Option MV) (_ : St5 l') (hr : r < 6) (hl : t.length ≤ 10) (e : r_law_draw [.lst l, .val (.int 6)] = .ok (.val (.int r)) [.lst l', .val (.int 6)]) : l_law_piece_2 [some (.lst l), some (.val (.str (tx t))), y] = .nx [some (.lst l'), some (.val (.str (tx (t ++ [alP.getD r 0])))), y] := by
  have hix := at_six (s := alP) rfl alP_ok hr
  have ha := addD_tx (a := t) (b := [alP.getD r 0]) (le_size (by simp; omega))
  generalize alP.getD r 0 = c at *
  generalize (r : Int) = R at *
  simp [l_law_piece_2, e, lalP, hix, ha]
/-- what is written for a piece -/
inductive Pc : Str → List Nat → List Nat → Prop
  | q {t : List Nat} : t.length ≤ 4 → (∀ c ∈ t, c ∈ alQ) → Pc "quoted" t (34 :: (esc t ++ [34]))
  | p {t : List Nat} : t ≠ [] → t.length ≤ 4 → (∀ c ∈ t, c ∈ alP) → Pc "plain" t t
theorem piece_run {l : List DV} (h : St5 l) : ∃ (k : Str) (t w : List Nat) (l' : List DV), St5 l' ∧ Pc k t w ∧ r_law_piece [.lst l] = .ok (.val (.tup [.str k, .str (tx t), .str (tx w)])) [.lst l'] := by
  have e0 : ("" : Str) = tx [] := by rfl
  obtain ⟨n, l1, hd, n0, n1, e1⟩ := draw_ok (most := 2) h (by omega) (by omega)
  by_cases hn : n = 0
  · subst hn
    obtain ⟨m, l2, hd2, m0, m1, e2⟩ := draw_ok (most := 5) hd (by omega) (by omega)
    obtain ⟨t, l3, y, hd3, hmem, hl, e3⟩ := pick_loop (y0 := none) (s := alQ) rfl alQ_ok bodyQ hd2 m0 (by omega)
    have ht : Txo t := ⟨by omega, fun c hc => alQ_ok.le c (hmem c hc)⟩
    have hw := wr_run ht (by omega)
    refine ⟨"quoted", t, _, l3, hd3, .q (by omega) hmem, ?_⟩
    have g : small62 m := small62_of (by omega) (by omega)
    generalize tx (34 :: (esc t ++ [34])) = W at *
    simp [r_law_piece, b_law_piece, e0, e1, e2, g, e3, hw]
  · obtain ⟨m, l2, hd2, m0, m1, e2⟩ := draw_ok (most := 4) hd (by omega) (by omega)
    obtain ⟨t, l3, y, hd3, hmem, hl, e3⟩ := pick_loop (y0 := none) (s := alP) rfl alP_ok bodyP hd2 (n := 1 + m) (by omega) (by omega)
    refine ⟨"plain", t, t, l3, hd3, .p (fun z => by rw [z] at hl; simp at hl; omega) (by omega) hmem, ?_⟩
    have g : small62 (1 + m) := small62_of (by omega) (by omega)
    simp [r_law_piece, b_law_piece, e0, e1, e2, g, e3, hn]
end Cl
namespace Cl
open PySem PySem.Spec PyProof.Rows L2 Sy
/-! ### the line grows -/
def sps (g : Nat) : List Itm := List.replicate g .sp
theorem sps_tx (g : Nat) : itx (sps g) = List.replicate g 32 := by
  induction g with
  | zero => rfl
  | succ g ih =>
    show itx (.sp :: sps g) = _
    rw [show itx (.sp :: sps g) = 32 :: itx (sps g) from rfl, ih]
    rfl
theorem sps_due (g p : Nat) (l : List Itm) : due p (sps g ++ l) = due (p + g) l := by
  induction g generalizing p with
  | zero => rfl
  | succ g ih =>
    show due p (.sp :: (sps g ++ l)) = _
    rw [due, ih]
    congr 1
    omega
theorem sps_ok (g : Nat) (b : Bool) (l : List Itm) : okI b (sps g ++ l) ↔ okI (if g = 0 then b else false) l := by
  induction g generalizing b with
  | zero => rfl
  | succ g ih =>
    show okI b (.sp :: (sps g ++ l)) ↔ _
    rw [okI, ih]
    simp
theorem sps_last (g : Nat) (b : Bool) (l : List Itm) : lastI b (sps g ++ l) = lastI (if g = 0 then b else false) l := by
  induction g generalizing b with
  | zero => rfl
  | succ g ih =>
    show lastI b (.sp :: (sps g ++ l)) = _
    rw [lastI, ih]
    simp
def itmOf (k : Str) (t : List Nat) : Itm := if k = "plain" then .pl t else .qu t
theorem qp : ("quoted" : Str) ≠ "plain" := by decide
theorem Pc.itm {k : Str} {t w : List Nat} (h : Pc k t w) : (itmOf k t).tx = w := by
  cases h with
  | q => rw [itmOf, if_neg qp]; rfl
  | p => rw [itmOf, if_pos rfl]; rfl
theorem alQ_good : ∀ c ∈ alQ, good c := by decide
theorem alP_good : ∀ c ∈ alP, good c ∧ ¬ spq c := by decide
theorem Pc.good {k : Str} {t w : List Nat} (h : Pc k t w) : (∀ c ∈ w, good c) ∧ w.length ≤ 10 ∧ Txo t := by
  cases h with
  | q h1 h2 =>
    refine ⟨fun c hc => ?_, ?_, ⟨by omega, fun c hc => alQ_ok.le c (h2 c hc)⟩⟩
    · simp at hc
      rcases hc with hc | hc | hc
      · subst hc; decide
      · rcases esc_mem hc with hc | hc
        · exact alQ_good c (h2 c hc)
        · subst hc; decide
      · subst hc; decide
    · have := esc_le t
      simp
      omega
  | p h0 h1 h2 => exact ⟨fun c hc => (alP_good c (h2 c hc)).1, by omega, ⟨by omega, fun c hc => alP_ok.le c (h2 c hc)⟩⟩
theorem Pc.ok {k : Str} {t w : List Nat} (h : Pc k t w) (b : Bool) (hb : k = "plain" → b = false) : okI b [itmOf k t] ∧ lastI b [itmOf k t] = decide (k = "plain") := by
  cases h with
  | q h1 h2 => rw [itmOf, if_neg qp]; exact ⟨trivial, rfl⟩
  | p h0 h1 h2 => rw [itmOf, if_pos rfl]; exact ⟨⟨hb rfl, h0, fun c hc => (alP_good c (h2 c hc)).2, trivial⟩, rfl⟩
theorem Pc.due {k : Str} {t w : List Nat} (h : Pc k t w) (p : Nat) : due p [itmOf k t] = [pieceD k t (p + 1)] := by
  cases h with
  | q => rw [itmOf, if_neg qp]; rfl
  | p => rw [itmOf, if_pos rfl]; rfl
def gp (g : Nat) (k bf : Str) : Nat := if g = 0 ∧ k = "plain" ∧ bf = "plain" then 1 else g
def Bf (s : Str) : Prop := s = "" ∨ s = "quoted" ∨ s = "plain"
theorem bf_eq {s : Str} (h : Bf s) : eqD (.str s) (.str "plain") = bl (decide (s = "plain")) := by
  rcases h with rfl | rfl | rfl <;> exact eqD_str (by decide +kernel) (by decide +kernel)
theorem Pc.bf {k : Str} {t w : List Nat} (h : Pc k t w) : Bf k := by
  cases h with
  | q => exact .inr (.inl rfl)
  | p => exact .inr (.inr rfl)
/-- what stands behind k turns -/
structure Inv7 (k : Nat) (l : List Itm) (bf : Str) : Prop where
  ok : okI false l
  last : lastI false l = decide (bf = "plain")
  good : ∀ c ∈ itx l, good c
  len : (itx l).length ≤ 1 + 12 * k
  few : (due 0 l).length ≤ k
  shp : (due 0 l).all (shp 1) = true
  bf : Bf bf
theorem Inv7.txo {k : Nat} {l : List Itm} {bf : Str} (h : Inv7 k l bf) (hk : k ≤ 7) : Txo (itx l) := ⟨by have := h.len; omega, fun c hc => by have := h.good c hc; unfold Cl.good at this; omega⟩
theorem Inv7.more {n : Nat} {l : List Itm} {bf k : Str} {t w : List Nat} {g : Nat} (h : Inv7 n l bf) (hp : Pc k t w) (hg : g ≤ 2) : Inv7 (n + 1) (l ++ (sps (gp g k bf) ++ [itmOf k t])) k := by
  have hgp : gp g k bf ≤ 2 := by unfold gp; split <;> omega
  obtain ⟨p1, p2, p3⟩ := hp.good
  have hb : k = "plain" → (if gp g k bf = 0 then lastI false l else false) = false := fun hk => by
    by_cases z : gp g k bf = 0
    · rw [if_pos z, h.last]
      refine decide_eq_false fun e => ?_
      unfold gp at z
      by_cases g0 : g = 0
      · rw [if_pos ⟨g0, hk, e⟩] at z; cases z
      · rw [if_neg fun y => g0 y.1] at z; exact g0 z
    · rw [if_neg z]
  obtain ⟨o1, o2⟩ := hp.ok _ hb
  have hd : due 0 (l ++ (sps (gp g k bf) ++ [itmOf k t])) = due 0 l ++ [pieceD k t ((itx l).length + gp g k bf + 1)] := by
    rw [due_app, sps_due, hp.due, Nat.zero_add]
  have hx : itx (l ++ (sps (gp g k bf) ++ [itmOf k t])) = itx l ++ (List.replicate (gp g k bf) 32 ++ w) := by
    rw [itx_app, itx_app, sps_tx]
    show _ ++ (_ ++ ((itmOf k t).tx ++ [])) = _
    rw [hp.itm, List.append_nil]
  refine ⟨(okI_app _ _ _).mpr ⟨h.ok, (sps_ok _ _ _).mpr o1⟩, ?_, ?_, ?_, ?_, ?_, hp.bf⟩
  · rw [lastI_app, sps_last, o2]
  · rw [hx]
    intro c hc
    rcases List.mem_append.mp hc with hc | hc
    · exact h.good c hc
    · rcases List.mem_append.mp hc with hc | hc
      · rw [(List.mem_replicate.mp hc).2]; decide
      · exact p1 c hc
  · rw [hx]
    have := h.len
    simp
    omega
  · rw [hd]
    have := h.few
    simp
    omega
  · rw [hd, List.all_append, h.shp]
    have e1 : Sy.shp 0 (.str k) = true := by
      rcases hp.bf with rfl | rfl | rfl <;> decide +kernel
    have e2 : Sy.shp 1 (pieceD k t ((itx l).length + gp g k bf + 1)) = true := shp_tup (n := 0) (by simp) (by
      simp only [List.all_cons, e1, shp_tx p3, List.all_nil, Bool.and_true, Bool.true_and]
      rfl)
    simp [e2]
/-! ### a turn -/
def stL (S : MV) (l : List DV) (num : Int) (its : List Itm) (bf : Str) (x6 x7 x8 x9 x10 : Option MV) : Sl :=
  [some S, some (.lst l), some (.val (.int num)), some (.val (.str (tx (itx its)))), some (.lst (due 0 its)), some (.val (.str bf)), x6, x7, x8, x9, x10, none, none, none, none]
theorem turn_run (S : MV) (num : Int) {n : Nat} {its : List Itm} {bf : Str} (h : Inv7 n its bf) (hn : n < 7) {l : List DV} (hl : St5 l) (x6 x7 x8 x9 x10 : Option MV) (hS : isO (some (some S)) = false) :
    ∃ (its' : List Itm) (bf' : Str) (l' : List DV) (y7 y8 y9 y10 : Option MV), Inv7 (n + 1) its' bf' ∧ St5 l' ∧ l_law_1 (stL S l num its bf x6 x7 x8 x9 x10) = .nx (stL S l' num its' bf' x6 y7 y8 y9 y10) := by
  obtain ⟨k, t, w, l1, hd1, hp, e1⟩ := piece_run hl
  obtain ⟨g', l2, hd2, g0, g1, e2⟩ := draw_ok (most := 3) hd1 (by omega) (by omega)
  obtain ⟨g, rfl⟩ : ∃ q : Nat, g' = q := ⟨g'.toNat, by omega⟩
  have hi := h.more hp (g := g) (by omega)
  refine ⟨_, _, l2, some (.val (.str k)), some (.val (.str (tx t))), some (.val (.str (tx w))), some (.val (.int (gp g k bf : Nat))), hi, hd2, ?_⟩
  have hgp : gp g k bf ≤ 2 := by unfold gp; split <;> omega
  have hT := h.txo (by omega)
  have hln := h.len
  have hfew := h.few
  obtain ⟨p1, p2, p3⟩ := hp.good
  have hd : due 0 (its ++ (sps (gp g k bf) ++ [itmOf k t])) = due 0 its ++ [pieceD k t ((itx its).length + gp g k bf + 1)] := by
    rw [due_app, sps_due, hp.due, Nat.zero_add]
  have hx : itx (its ++ (sps (gp g k bf) ++ [itmOf k t])) = itx its ++ List.replicate (gp g k bf) 32 ++ w := by
    rw [itx_app, itx_app, sps_tx]
    show _ ++ (_ ++ ((itmOf k t).tx ++ [])) = _
    rw [hp.itm, List.append_nil, List.append_assoc]
  have m1 := mulZ_tx (c := 32) (k := gp g k bf) (by omega)
  have a1 := addD_tx (a := itx its) (b := List.replicate (gp g k bf) 32) (le_size (by simp; omega))
  have a2 := addD_tx (a := itx its ++ List.replicate (gp g k bf) 32) (b := w) (le_size (by simp; omega))
  have hlen := lenD_tx (l := itx its ++ List.replicate (gp g k bf) 32) (le_size (by simp; omega))
  have hle : (itx its ++ List.replicate (gp g k bf) 32).length = (itx its).length + gp g k bf := by simp
  rw [hle] at hlen
  have q1 := bf_eq hp.bf
  have q2 := bf_eq h.bf
  have hfl : (due 0 its).length ≤ 10000000 := by omega
  have i1 : (((itx its).length + gp g k bf : Nat) : Int) + 1 = (((itx its).length + gp g k bf + 1 : Nat) : Int) := by omega
  have gz : ((g : Int) = 0) ↔ g = 0 := by omega
  unfold stL
  rw [hd, hx]
  unfold pieceD
  rw [← i1]
  have fin : ∀ (G : Nat), G = gp g k bf → (if g = 0 ∧ k = "plain" ∧ bf = "plain" then (1 : Int) else (g : Int)) = (G : Int) := fun G hG => by
    rw [hG]
    unfold gp
    split <;> rfl
  have hf := fin _ rfl
  generalize hG : gp g k bf = G at *
  generalize due 0 its = DL at *
  generalize (((itx its).length + G : Nat) : Int) = E at *
  generalize itx its ++ List.replicate G 32 ++ w = A2 at *
  generalize itx its ++ List.replicate G 32 = A1 at *
  generalize itx its = A0 at *
  by_cases c1 : g = 0
  · by_cases c2 : k = "plain"
    · by_cases c3 : bf = "plain"
      · rw [if_pos ⟨c1, c2, c3⟩] at hf
        rw [← hf] at m1 ⊢
        rw [decide_eq_true c2] at q1
        rw [decide_eq_true c3] at q2
        subst c1
        simp [l_law_1, e1, e2, q1, q2, ls, m1, a1, a2, hlen, hfl, hS]
      · rw [if_neg fun z => c3 z.2.2] at hf
        rw [← hf] at m1 ⊢
        rw [decide_eq_true c2] at q1
        rw [decide_eq_false c3] at q2
        subst c1
        simp at m1
        simp [l_law_1, e1, e2, q1, q2, ls, m1, a1, a2, hlen, hfl, hS]
    · rw [if_neg fun z => c2 z.2.1] at hf
      rw [← hf] at m1 ⊢
      rw [decide_eq_false c2] at q1
      subst c1
      simp at m1
      simp [l_law_1, e1, e2, q1, ls, m1, a1, a2, hlen, hfl, hS]
  · rw [if_neg fun z => c1 z.1] at hf
    rw [← hf] at m1 ⊢
    have c1' : ¬ (g : Int) = 0 := by omega
    simp [l_law_1, e1, e2, ls, m1, a1, a2, hlen, hfl, hS, c1, c1']
end Cl
namespace Cl
open PySem PySem.Spec PyProof.Rows L2 Sy
/-! ### the line is drawn -/
theorem line_run (S : MV) (num : Int) {l : List DV} (hl : St5 l) (hS : isO (some (some S)) = false) {n : Int} (n0 : 0 ≤ n) (n1 : n ≤ 7) {its : List Itm} (h : Inv7 0 its "") :
    ∃ (its' : List Itm) (bf' : Str) (l' : List DV) (y6 y7 y8 y9 y10 : Option MV), Inv7 n.toNat its' bf' ∧ St5 l' ∧ loop (.nm 6) l_law_1 (ups 0 n) (stL S l num its "" none none none none none) = .nx (stL S l' num its' bf' y6 y7 y8 y9 y10) := by
  obtain ⟨st, e, _, its', bf', l', y6, y7, y8, y9, y10, hi, hd, rfl⟩ := loop_inv (p := .nm 6) (b := l_law_1) (fun k st => k ≤ 7 ∧ ∃ (its' : List Itm) (bf' : Str) (l' : List DV) (y6 y7 y8 y9 y10 : Option MV), Inv7 k its' bf' ∧ St5 l' ∧ st = stL S l' num its' bf' y6 y7 y8 y9 y10) (ups 0 n) 0
    (stL S l num its "" none none none none none) ⟨by omega, its, "", l, none, none, none, none, none, h, hl, rfl⟩ (by
    rintro i d st hd' ⟨hk, its', bf', l', y6, y7, y8, y9, y10, hi, hd, rfl⟩
    obtain ⟨rfl, hin⟩ := ups_get hd'
    obtain ⟨its2, bf2, l2, z7, z8, z9, z10, hi2, hd2, e2⟩ := turn_run S num hi (by omega) hd (some (.val (.int ((0 : Int) + i)))) y7 y8 y9 y10 hS
    exact ⟨stL S l' num its' bf' (some (.val (.int ((0 : Int) + i)))) y7 y8 y9 y10, _, by rw [bindP_nm, if_pos (by simp [stL])]; all_goals rfl, .inl e2, by omega, its2, bf2, l2, _, z7, z8, z9, z10, hi2, hd2, rfl⟩)
  rw [ups_len, Nat.zero_add] at hi
  exact ⟨its', bf', l', y6, y7, y8, y9, y10, by simpa using hi, hd, e⟩
theorem eq3 {num col : Int} {r : Str} (h : PyData.strOk r = true) : eqD (.tup [.int num, .int col, .str r]) (.tup [.int num, .int col, .str r]) = bl true := eqD_refl (n := 1) (by omega) (shp_tup (n := 0) (by simp) (by
  have : shp 0 (.str r) = true := h
  simp only [List.all_cons, this, List.all_nil, Bool.and_true]
  rfl))
theorem eqNil : eqD (.lst []) (.lst []) = bl true := eqD_refl (n := 1) (by omega) (by rfl)
section
variable {k : Nat} {its : List Itm} {bf : Str} (h : Inv7 k its bf) (hk : k ≤ 7) (num : Int) (cs : Nat → Addr)
include h hk
theorem told_due : r_law_told cs [.val (.str (tx (itx its))), .val (.int num)] = .ok (.lst (due 0 its)) [.val (.str (tx (itx its))), .val (.int num)] :=
  told_ok (h.txo hk) num cs (pieces_ok (h.txo hk) num cs rfl h.ok h.good)
theorem due_ne : neD (.lst (due 0 its)) (.lst (due 0 its)) = bl false := by
  have hs : Sy.shp 2 (.lst (due 0 its)) = true := shp_lst (n := 1) (by have := h.few; omega) h.shp
  rw [neD_of (n := 2) (by omega) hs hs, SeqAt.eqv_refl _ (shp_ok 2 _ hs).2.1]
  rfl
theorem told_sign {a : Nat} (ha : a ≤ (itx its).length) {ch : List Nat} (hc : ch = [9] ∨ ch = [9, 32] ∨ ch = [9, 34]) :
    r_law_told cs [.val (.str (tx ((itx its).take a ++ ch ++ (itx its).drop a))), .val (.int num)] = .ok (.val (.tup [.int num, .int ((a : Int) + 1), .str "sign"])) [.val (.str (tx ((itx its).take a ++ ch ++ (itx its).drop a))), .val (.int num)] := by
  have hl := h.len
  have hT := h.txo hk
  have hT2 : Txo ((itx its).take a ++ ch ++ (itx its).drop a) := by
    refine ⟨?_, fun c hc' => ?_⟩
    · rcases hc with rfl | rfl | rfl <;> simp <;> omega
    · rcases List.mem_append.mp hc' with hc' | hc'
      · rcases List.mem_append.mp hc' with hc' | hc'
        · exact hT.le c (List.mem_of_mem_take hc')
        · rcases hc with rfl | rfl | rfl <;> simp at hc' <;> omega
      · exact hT.le c (List.mem_of_mem_drop hc')
  obtain ⟨r, hr⟩ : ∃ r, ch = 9 :: r := by rcases hc with rfl | rfl | rfl <;> exact ⟨_, rfl⟩
  have e := told_exc hT2 num cs (pieces_sign hT2 num cs (g := (itx its).take a) (b := 9) (r := r ++ (itx its).drop a) (by rw [hr]; simp) (fun c hc => h.good c (List.mem_of_mem_take hc)) (by decide))
  have hm : ((itx its).take a).length = a := by simp; omega
  rw [hm] at e
  exact e
theorem suf_txo {s : List Nat} (hs : ∀ c ∈ s, good c) (hl : s.length ≤ 10) : Txo (itx its ++ s) ∧ ∀ c ∈ itx its ++ s, good c := by
  have hln := h.len
  have hT := h.txo hk
  have hg : ∀ c ∈ itx its ++ s, good c := fun c hc => (List.mem_append.mp hc).elim (h.good c) (hs c)
  exact ⟨⟨by simp; omega, fun c hc => by have := hg c hc; unfold Cl.good at this; omega⟩, hg⟩
theorem sp_split (w : List Nat) : itx its ++ (32 :: 34 :: w) = itx (its ++ [.sp]) ++ 34 :: w ∧ okI false (its ++ [.sp]) ∧ (itx (its ++ [.sp])).length = (itx its).length + 1 ∧ (itx its ++ (32 :: 34 :: w)).drop ((itx its).length + 1) = 34 :: w := by
  refine ⟨?_, (okI_app _ _ _).mpr ⟨h.ok, trivial⟩, ?_, ?_⟩
  · rw [itx_app]
    show _ = _ ++ [32] ++ _
    simp
  · rw [itx_app]
    show (_ ++ [32]).length = _
    simp
  · have : itx its ++ (32 :: 34 :: w) = (itx its ++ [32]) ++ 34 :: w := by simp
    rw [this]
    have e : (itx its).length + 1 = (itx its ++ [32]).length := by simp
    rw [e, List.drop_left]
theorem told_bad : r_law_told cs [.val (.str (tx (itx its ++ [32, 34, 97, 98, 92, 99, 100, 34]))), .val (.int num)] = .ok (.val (.tup [.int num, .int (((itx its).length : Int) + 5), .str "quoted"])) [.val (.str (tx (itx its ++ [32, 34, 97, 98, 92, 99, 100, 34]))), .val (.int num)] := by
  obtain ⟨hT, hg⟩ := suf_txo h hk (s := [32, 34, 97, 98, 92, 99, 100, 34]) (by decide) (by decide)
  obtain ⟨s1, s2, s3, s4⟩ := sp_split h hk [97, 98, 92, 99, 100, 34]
  have hq := quoted_bad hT num cs (t := [97, 98]) (c := 99) (r := [100, 34]) s4 (by decide)
  rw [← s3] at hq
  have e := told_exc hT num cs (pieces_q hT num cs s1 s2 hg hq)
  rw [e]
  have i1 : ((((itx (its ++ [.sp])).length + 1 + (esc [97, 98]).length : Nat) : Int) + 1) = ((itx its).length : Int) + 5 := by
    rw [s3]
    have : (esc [97, 98]).length = 2 := by decide
    omega
  rw [i1]
theorem told_open {w : List Nat} (hw : w = [97, 98] ∨ w = [] ∨ w = [97, 92, 34] ∨ w = [97, 92] ∨ w = [92, 92]) : r_law_told cs [.val (.str (tx (itx its ++ (32 :: 34 :: w)))), .val (.int num)] = .ok (.val (.tup [.int num, .int (((itx its).length : Int) + 2), .str "quoted"])) [.val (.str (tx (itx its ++ (32 :: 34 :: w)))), .val (.int num)] := by
  obtain ⟨hT, hg⟩ := suf_txo h hk (s := 32 :: 34 :: w) (by rcases hw with rfl | rfl | rfl | rfl | rfl <;> decide) (by rcases hw with rfl | rfl | rfl | rfl | rfl <;> decide)
  obtain ⟨s1, s2, s3, s4⟩ := sp_split h hk w
  have hq : r_quoted cs [.val (.str (tx (itx its ++ (32 :: 34 :: w)))), .val (.int ((itx its).length + 1 : Nat)), .val (.int num)] = .exc (exT num ((((itx its).length + 1 : Nat) : Int) + 1) "quoted" (cs 1)) [.val (.str (tx (itx its ++ (32 :: 34 :: w)))), .val (.int ((itx its).length + 1 : Nat)), .val (.int num)] := by
    rcases hw with rfl | rfl | rfl | rfl | rfl
    · exact quoted_open hT num cs (t := [97, 98]) s4
    · exact quoted_open hT num cs (t := []) s4
    · exact quoted_open hT num cs (t := [97, 34]) s4
    · exact quoted_back hT num cs (t := [97]) s4
    · exact quoted_open hT num cs (t := [92]) s4
  rw [← s3] at hq
  have e := told_exc hT num cs (pieces_q hT num cs s1 s2 hg hq)
  rw [e]
  have i1 : ((((itx (its ++ [.sp])).length : Nat) : Int) + 1) = ((itx its).length : Int) + 2 := by
    rw [s3]
    omega
  rw [i1]
end
theorem told_empty (num : Int) (cs : Nat → Addr) : r_law_told cs [.val (.str (tx [])), .val (.int num)] = .ok (.lst []) [.val (.str (tx [])), .val (.int num)] :=
  told_ok Txo.nil num cs (pieces_ok Txo.nil num cs (l := []) rfl trivial (by simp))
theorem told_three (num : Int) (cs : Nat → Addr) : r_law_told cs [.val (.str (tx [32, 32, 32])), .val (.int num)] = .ok (.lst []) [.val (.str (tx [32, 32, 32])), .val (.int num)] :=
  told_ok ⟨by decide, by decide⟩ num cs (pieces_ok ⟨by decide, by decide⟩ num cs (l := [.sp, .sp, .sp]) rfl trivial (by decide))
theorem holds (C : Nat → Addr) (ns : List Int) (hl : ns.length ≤ 63) : ∃ ms, r_law C [.val (.scr (ns.map .int))] = .ok (.val (.bl true)) ms := by
  obtain ⟨l0, hd0, e0⟩ := state_ok ns (by omega)
  obtain ⟨n, l1, hd1, n0, n1, e1⟩ := draw_ok (most := 90) hd0 (by omega) (by omega)
  obtain ⟨g', l2, hd2, g0, g1, e2⟩ := draw_ok (most := 2) hd1 (by omega) (by omega)
  obtain ⟨g, rfl⟩ : ∃ q : Nat, g' = q := ⟨g'.toNat, by omega⟩
  obtain ⟨m, l3, hd3, m0, m1, e3⟩ := draw_ok (most := 8) hd2 (by omega) (by omega)
  have hi0 : Inv7 0 (sps g) "" := by
    have e1 := sps_due g 0 []
    have e2 := sps_ok g false []
    have e3 := sps_last g false []
    rw [List.append_nil] at e1 e2 e3
    refine ⟨e2.mpr trivial, ?_, ?_, ?_, ?_, ?_, .inl rfl⟩
    · rw [e3]
      show (if g = 0 then false else false) = decide (("" : Str) = "plain")
      rw [decide_eq_false (by decide)]
      split <;> rfl
    · rw [sps_tx]
      intro c hc
      rw [(List.mem_replicate.mp hc).2]
      decide
    · rw [sps_tx, List.length_replicate]
      omega
    · rw [e1]
      exact Nat.zero_le _
    · rw [e1]
      rfl
  generalize hS : MV.val (.scr (ns.map .int)) = S at *
  have hS4 : isO (some (some S)) = false := by rw [← hS]; rfl
  obtain ⟨its, bf, l4, y6, y7, y8, y9, y10, hi, hd4, e4⟩ := line_run S (1 + n) hd3 hS4 m0 (by omega) hi0
  have hk : m.toNat ≤ 7 := by omega
  have hT := hi.txo hk
  have hln := hi.len
  have t1 := told_due hi hk (1 + n) C
  have t2 := due_ne hi hk
  obtain ⟨k, l5, hd5, k0, k1, e5⟩ := draw_ok (most := 4) hd4 (by omega) (by omega)
  have z1 := mulZ_tx (c := 32) (k := g) (by omega)
  have gm : small62 m := small62_of (by omega) (by omega)
  have e0' : ("" : Str) = tx [] := by rfl
  unfold stL at e4
  have s1 : tx (itx (sps g)) = tx (List.replicate g 32) := by rw [sps_tx]
  have s2 : due 0 (sps g) = [] := by
    have := sps_due g 0 []
    rw [List.append_nil] at this
    exact this
  rw [s1, s2, e0'] at e4
  have hlen := lenD_tx hT.line
  by_cases c0 : k = 0
  · subst c0
    obtain ⟨a', l6, hd6, a0, a1, e6⟩ := draw_ok (most := ((itx its).length : Int) + 1) hd5 (by omega) (by omega)
    obtain ⟨a, rfl⟩ : ∃ q : Nat, a' = q := ⟨a'.toNat, by omega⟩
    obtain ⟨b', l7, hd7, b0, b1, e7⟩ := draw_ok (most := 3) hd6 (by omega) (by omega)
    obtain ⟨ch, hch, hix⟩ : ∃ ch : List Nat, (ch = [9] ∨ ch = [9, 32] ∨ ch = [9, 34]) ∧ ixD (.lst [.str "\t", .str "\t ", .str "\t\""]) (.int b') = some (.val (.str (tx ch))) := by
      have : b' = 0 ∨ b' = 1 ∨ b' = 2 := by omega
      rcases this with rfl | rfl | rfl
      · exact ⟨[9], .inl rfl, rfl⟩
      · exact ⟨[9, 32], .inr (.inl rfl), rfl⟩
      · exact ⟨[9, 34], .inr (.inr rfl), rfl⟩
    have ts := told_sign hi hk (1 + n) C (a := a) (by omega) hch
    have q1 := slD_tx (l := itx its) (lo := none) (hi := some (a : Int)) hT.line
    have q2 := slD_tx (l := itx its) (lo := some (a : Int)) (hi := none) hT.line
    rw [cutL_take] at q1
    rw [cutL_drop] at q2
    have hcl : ch.length ≤ 2 := by rcases hch with rfl | rfl | rfl <;> decide
    have q3 := addD_tx (a := (itx its).take a) (b := ch) (le_size (by simp; omega))
    have q4 := addD_tx (a := (itx its).take a ++ ch) (b := (itx its).drop a) (le_size (by simp; omega))
    have eq := eq3 (num := 1 + n) (col := (a : Int) + 1) (r := "sign") (by decide +kernel)
    generalize due 0 its = DL at *
    generalize (itx its).take a ++ ch ++ (itx its).drop a = X3 at *
    generalize (itx its).take a ++ ch = X2 at *
    generalize (itx its).take a = X0 at *
    generalize (itx its).drop a = X1 at *
    generalize ((itx its).length : Int) = E at *
    generalize itx its = X at *
    refine ⟨[S], ?_⟩
    simp [r_law, b_law, e0, e1, e2, ls, e0', z1, e3, gm, e4, t1, t2, e5, hlen, e6, e7, hix, q1, q2, q3, q4, ts, eq, hS4]
  · by_cases c1 : k = 1
    · subst c1
      have tb := told_bad hi hk (1 + n) C
      have q3 := addD_tx (a := itx its) (b := [32, 34, 97, 98, 92, 99, 100, 34]) (le_size (by simp; omega))
      have lx : (" \"ab\\cd\"" : Str) = tx [32, 34, 97, 98, 92, 99, 100, 34] := by rfl
      have eq := eq3 (num := 1 + n) (col := ((itx its).length : Int) + 5) (r := "quoted") (by decide +kernel)
      generalize due 0 its = DL at *
      generalize ((itx its).length : Int) = E at *
      generalize itx its ++ [32, 34, 97, 98, 92, 99, 100, 34] = X1 at *
      generalize itx its = X at *
      refine ⟨[S], ?_⟩
      simp [r_law, b_law, e0, e1, e2, ls, e0', z1, e3, gm, e4, t1, t2, e5, hlen, lx, q3, tb, eq, hS4]
    · by_cases c2 : k = 2
      · subst c2
        obtain ⟨b', l7, hd7, b0, b1, e7⟩ := draw_ok (most := 5) hd5 (by omega) (by omega)
        obtain ⟨w, hw, hix⟩ : ∃ w : List Nat, (w = [97, 98] ∨ w = [] ∨ w = [97, 92, 34] ∨ w = [97, 92] ∨ w = [92, 92]) ∧ ixD (.lst [.str "ab", .str (tx []), .str "a\\\"", .str "a\\", .str "\\\\"]) (.int b') = some (.val (.str (tx w))) := by
          have : b' = 0 ∨ b' = 1 ∨ b' = 2 ∨ b' = 3 ∨ b' = 4 := by omega
          rcases this with rfl | rfl | rfl | rfl | rfl
          · exact ⟨_, .inl rfl, rfl⟩
          · exact ⟨_, .inr (.inl rfl), rfl⟩
          · exact ⟨_, .inr (.inr (.inl rfl)), rfl⟩
          · exact ⟨_, .inr (.inr (.inr (.inl rfl))), rfl⟩
          · exact ⟨_, .inr (.inr (.inr (.inr rfl))), rfl⟩
        have tb := told_open hi hk (1 + n) C hw
        have hwl : w.length ≤ 3 := by rcases hw with rfl | rfl | rfl | rfl | rfl <;> decide
        have q3 := addD_tx (a := itx its) (b := [32, 34]) (le_size (by simp; omega))
        have q4 := addD_tx (a := itx its ++ [32, 34]) (b := w) (le_size (by simp; omega))
        have hx : itx its ++ [32, 34] ++ w = itx its ++ (32 :: 34 :: w) := by simp
        rw [hx] at q4
        have lx : (" \"" : Str) = tx [32, 34] := by rfl
        have eq := eq3 (num := 1 + n) (col := ((itx its).length : Int) + 2) (r := "quoted") (by decide +kernel)
        generalize due 0 its = DL at *
        generalize ((itx its).length : Int) = E at *
        generalize itx its ++ (32 :: 34 :: w) = X1 at *
        generalize itx its ++ [32, 34] = X2 at *
        generalize itx its = X at *
        refine ⟨[S], ?_⟩
        simp [r_law, b_law, e0, e1, e2, ls, e0', z1, e3, gm, e4, t1, t2, e5, e7, hix, hlen, lx, q3, q4, tb, eq, hS4]
      · have p1 := told_empty (1 + n) C
        have p2 := told_three (1 + n) C
        have lx : ("   " : Str) = tx [32, 32, 32] := by rfl
        have eq := eqNil
        generalize due 0 its = DL at *
        generalize itx its = X at *
        refine ⟨[S], ?_⟩
        simp [r_law, b_law, e0, e1, e2, ls, e0', z1, e3, gm, e4, t1, t2, e5, lx, p1, p2, eq, hS4, c0, c1, c2]
end Cl
open PySem PySem.W PyProof.Rows in
set_option maxRecDepth 100000 in
set_option maxHeartbeats 0 in
theorem PySem.Challenge.cw_sixdot_k01_pieces_of_a_line_holds : PySem.Challenge.rw_sixdot_k01_pieces_of_a_line.Holds := by
  w_on; o_law; k_head; (case hw => w_witness2)
  k_fill
  refine L2.walk_of (l := PySem.Challenge.rw_sixdot_k01_pieces_of_a_line) (n := 63) (k := 6) (x := "_law_script") (CX := fun _ => L2.CX0) (sp := fun w => Sy.spA _ Cl.r_law) rfl (by decide) rfl ⟨rfl, by decide, by decide⟩ (fun w h Y => PySem.W.kIn_of Y) ?F (fun _ _ a ns hl _ hS => fun cs => Sy.law_end hS (Cl.holds cs ns hl)) (fun _ _ _ _ _ h => h)
  case F =>
    intro w mg fa h KX G hmg
    refine' Cl.all_mk KX G hmg ?aC1 ?xL1 ?xsa1 ?xga1 ?xgg1 ?xkc1 ?xex1 ?xty1 ?xhd1 ?xis1 ?xss1 ?nx1_line ?nx1_column ?nx1_reason ?a0 ?l0 ?c0 ?k0 ?a1 ?l1 ?c1 ?k1 ?a2 ?l2 ?c2 ?k2 ?a3 ?l3 ?c3 ?k3 ?a4 ?t4 ?l4 ?c4 ?k4 ?a5 ?l5 ?c5 ?k5 ?a6 ?l6 ?c6 ?k6 ?a7 ?l7 ?c7 ?k7 ?a8 ?l8 ?c8 ?k8 ?a9 ?l9 ?c9 ?k9 ?a10 ?l10 ?c10 ?k10 ?z_enumerate ?z_int ?z_len ?z_list ?z_range ?z_str ?v_BACKSLASH ?v_QUOTE
    (case aC1 => k_is)
    (case xL1 => k_is)
    (case xsa1 => k_is)
    (case xga1 => k_is)
    (case xgg1 => k_is)
    (case xkc1 => k_is)
    (case xex1 => k_is)
    (case xty1 => k_is)
    (case xhd1 => k_is)
    (case xis1 => k_is)
    (case xss1 => first | rfl | k_is)
    (case nx1_line => k_is)
    (case nx1_column => k_is)
    (case nx1_reason => k_is)
    (case a0 => k_is)
    (case l0 => k_is)
    (case c0 => k_is)
    (case k0 => k_is)
    (case a1 => k_is)
    (case l1 => k_is)
    (case c1 => k_is)
    (case k1 => k_is)
    (case a2 => k_is)
    (case l2 => k_is)
    (case c2 => k_is)
    (case k2 => k_is)
    (case a3 => k_is)
    (case l3 => k_is)
    (case c3 => k_is)
    (case k3 => k_is)
    (case a4 => k_is)
    (case t4 => k_is)
    (case l4 => k_is)
    (case c4 => k_is)
    (case k4 => k_is)
    (case a5 => k_is)
    (case l5 => k_is)
    (case c5 => k_is)
    (case k5 => k_is)
    (case a6 => k_is)
    (case l6 => k_is)
    (case c6 => k_is)
    (case k6 => k_is)
    (case a7 => k_is)
    (case l7 => k_is)
    (case c7 => k_is)
    (case k7 => k_is)
    (case a8 => k_is)
    (case l8 => k_is)
    (case c8 => k_is)
    (case k8 => k_is)
    (case a9 => k_is)
    (case l9 => k_is)
    (case c9 => k_is)
    (case k9 => k_is)
    (case a10 => k_is)
    (case l10 => k_is)
    (case c10 => k_is)
    (case k10 => k_is)
    (case z_enumerate => k_is)
    (case z_int => k_is)
    (case z_len => k_is)
    (case z_list => k_is)
    (case z_range => k_is)
    (case z_str => k_is)
    (case v_BACKSLASH => k_is)
    (case v_QUOTE => k_is)
