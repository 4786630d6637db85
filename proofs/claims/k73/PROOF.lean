import PyProof.Rows.All
import Wide.All
import OpenK.AllK
import Wide.FinOn
import HandS.ForMost
import HandS.Deep
import HandS.TupAny
import HandS.TupMul
import HandS.Wide
import HandS.WideBits
import HandS.Defaults
import HandS.Style
import KE.DataMinMax
import KE.SortData
import KE.LtSeq
import HandS.SetFor
import KE.KRevSl
import HandS.Small
import HandS.Zip
import HandS.Iter
import HandS.Comp
import HandS.IsInst
import HandS.Conv
import KE.KTupSum
import HandS.Ends
import HandS.Codes
import HandS.Head0
import HandS.Head1
import HandS.Head2
import HandS.HeadEnd
import HandS.HeadHook1
import HandS.HeadHook2
import PySem.Challenge.RW_numberstead_k73_digits_of_numbers
set_option Elab.async false
set_option autoImplicit false
set_option linter.all false
set_option maxRecDepth 100000
set_option maxHeartbeats 0
namespace MP
open PySem PySem.Spec L2

/-! ### values and the small heap -/
abbrev D := PyData
inductive Vl where
  | d (x : PyData)
  | r (n : Nat)
  | s (ns : List Int)
inductive O where
  | lst (xs : List Vl)
  | dic (kvs : List (Key × Vl))
  | dit (kvs : List (List Key × Vl))
  | gone
abbrev Hm := List O
abbrev Env' := List (Option Vl)
def O.live : O → Bool
  | .gone => false
  | _ => true

/-- the real side of the small heap: who else's objects (Z), where ours stand, what they are -/
structure G where
  Z : Addr → Prop
  φ : List Addr
  h : Hm
def G.loc (g : G) (a : Addr) : Prop := ∃ (n : Nat) (o : O), g.φ[n]? = some a ∧ g.h[n]? = some o ∧ o.live = true
def G.own (g : G) (a : Addr) : Prop := g.Z a ∨ g.loc a

/-- a list, a tuple that stays as it is -/
def LR (H : Hp) (ow : Addr → Prop) (a : Addr) (vs : List V) : Prop := H a = some (.lst vs) ∧ ¬ ow a
/-- the script -/
def LS (K : PySem.W.Frag) (H : Hp) (ow : Addr → Prop) (a : Addr) (vs : List V) : Prop := (Rd H a (.lst vs) ∧ ¬ ow a) ∨ SqL K (fun _ => none) a vs
def TR (H : Hp) (ow : Addr → Prop) (a : Addr) (vs : List V) : Prop := H a = some (.tup vs) ∧ ¬ ow a
theorem noRd {a : Addr} {u : HO} : ¬ Rd (fun _ => none) a u := by
  rintro (h | ⟨o, h⟩)
  · cases h
  · cases h
theorem SqL.up {K : PySem.W.Frag} {H : Hp} {a : Addr} {vs : List V} (h : SqL K (fun _ => none) a vs) : SqL K H a vs := by
  rcases h with h | h
  · exact (noRd h).elim
  · exact .inr h
theorem SqT.up {K : PySem.W.Frag} {H : Hp} {a : Addr} {vs : List V} (h : SqT K (fun _ => none) a vs) : SqT K H a vs := by
  rcases h with h | h
  · exact (noRd h).elim
  · exact .inr h
theorem LR.sq {K : PySem.W.Frag} {H : Hp} {ow : Addr → Prop} {a : Addr} {vs : List V} (h : LR H ow a vs) : SqL K H a vs := .inl (.inl h.1)
theorem LS.sq {K : PySem.W.Frag} {H : Hp} {ow : Addr → Prop} {a : Addr} {vs : List V} (h : LS K H ow a vs) : SqL K H a vs := by
  rcases h with ⟨h, _⟩ | h
  · exact .inl h
  · exact SqL.up h
theorem TR.sq {K : PySem.W.Frag} {H : Hp} {ow : Addr → Prop} {a : Addr} {vs : List V} (h : TR H ow a vs) : SqT K H a vs := .inl (.inl h.1)

mutual
inductive DR (K : PySem.W.Frag) (H : Hp) (ow : Addr → Prop) : PyData → V → Prop
  | non : DR K H ow .none .non
  | bl (b : Bool) : DR K H ow (.bool b) (.bl b)
  | int (i : Int) : DR K H ow (.int i) (.int i)
  | str (x : Str) : DR K H ow (.str x) (.str x)
  | lst {a : Addr} {vs : List V} {ds : List PyData} : LR H ow a vs → DRs K H ow ds vs → DR K H ow (.list ds) (.ref a)
  | tup {a : Addr} {vs : List V} {ds : List PyData} : TR H ow a vs → DRs K H ow ds vs → DR K H ow (.tuple ds) (.ref a)
inductive DRs (K : PySem.W.Frag) (H : Hp) (ow : Addr → Prop) : List PyData → List V → Prop
  | nil : DRs K H ow [] []
  | cons {d : PyData} {ds : List PyData} {v : V} {vs : List V} : DR K H ow d v → DRs K H ow ds vs → DRs K H ow (d :: ds) (v :: vs)
end

section
variable {K : PySem.W.Frag} {H H' : Hp} {ow ow' : Addr → Prop}
theorem Rd.keep {a : Addr} {u : HO} (h : Rd H a u) (k : ∀ o, H a = some o → H' a = some o) : Rd H' a u := by
  rcases h with h | ⟨o, h⟩
  · exact .inl (k _ h)
  · exact .inr ⟨o, k _ h⟩
theorem Rd.some {a : Addr} {u : HO} (h : Rd H a u) : ∃ o, H a = some o := by
  rcases h with h | ⟨o, h⟩
  · exact ⟨_, h⟩
  · exact ⟨_, h⟩
/-- what stays: objects that are not owned stay, new owners are new objects -/
structure Stays (H : Hp) (ow : Addr → Prop) (H' : Hp) (ow' : Addr → Prop) : Prop where
  keep : ∀ a o, ¬ ow a → H a = some o → H' a = some o
  own : ∀ a, ow' a → ow a ∨ H a = none
theorem Stays.refl : Stays H ow H ow := ⟨fun _ _ _ h => h, fun _ h => .inl h⟩
theorem Stays.rd {a : Addr} {u : HO} (s : Stays H ow H' ow') (h : Rd H a u) (n : ¬ ow a) : Rd H' a u ∧ ¬ ow' a := by
  refine ⟨Rd.keep h fun o e => s.keep a o n e, fun z => ?_⟩
  obtain ⟨o, e⟩ := Rd.some h
  rcases s.own a z with y | y
  · exact n y
  · rw [e] at y; cases y
theorem LR.mono (s : Stays H ow H' ow') {a : Addr} {vs : List V} (h : LR H ow a vs) : LR H' ow' a vs := by
  obtain ⟨h1, h2⟩ := s.rd (.inl h.1) h.2
  exact ⟨s.keep _ _ h.2 h.1, h2⟩
theorem LS.mono (s : Stays H ow H' ow') {a : Addr} {vs : List V} (h : LS K H ow a vs) : LS K H' ow' a vs := by
  rcases h with ⟨h, n⟩ | h
  · exact .inl (s.rd h n)
  · exact .inr h
theorem TR.mono (s : Stays H ow H' ow') {a : Addr} {vs : List V} (h : TR H ow a vs) : TR H' ow' a vs := by
  obtain ⟨h1, h2⟩ := s.rd (.inl h.1) h.2
  exact ⟨s.keep _ _ h.2 h.1, h2⟩
mutual
theorem DR.mono (s : Stays H ow H' ow') : ∀ {d : PyData} {v : V}, DR K H ow d v → DR K H' ow' d v
  | _, _, .non => .non
  | _, _, .bl b => .bl b
  | _, _, .int i => .int i
  | _, _, .str x => .str x
  | _, _, .lst h t => .lst (h.mono s) (DRs.mono s t)
  | _, _, .tup h t => .tup (h.mono s) (DRs.mono s t)
theorem DRs.mono (s : Stays H ow H' ow') : ∀ {ds : List PyData} {vs : List V}, DRs K H ow ds vs → DRs K H' ow' ds vs
  | _, _, .nil => .nil
  | _, _, .cons h t => .cons (DR.mono s h) (DRs.mono s t)
end
mutual
theorem DR.dp : ∀ {d : PyData} {v : V}, DR K H ow d v → Dp K H v d
  | _, _, .non => .non
  | _, _, .bl b => .bl b
  | _, _, .int i => .int i
  | _, _, .str x => .str x
  | _, _, .lst h t => .lst h.sq (DRs.dp t)
  | _, _, .tup h t => .tup h.sq (DRs.dp t)
theorem DRs.dp : ∀ {ds : List PyData} {vs : List V}, DRs K H ow ds vs → DpAll K H vs ds
  | _, _, .nil => .nil
  | _, _, .cons h t => .cons (DR.dp h) (DRs.dp t)
end
theorem DRs.length : ∀ {ds : List PyData} {vs : List V}, DRs K H ow ds vs → ds.length = vs.length
  | _, _, .nil => rfl
  | _, _, .cons _ t => congrArg Nat.succ t.length
theorem DRs.get : ∀ {ds : List PyData} {vs : List V} {i : Nat} {d : PyData}, DRs K H ow ds vs → ds[i]? = some d → ∃ v, vs[i]? = some v ∧ DR K H ow d v
  | _, _, _, _, .nil, e => by simp at e
  | _, _, 0, _, .cons h _, e => by simp at e; subst e; exact ⟨_, rfl, h⟩
  | _, _, i + 1, d, .cons _ t, e => by
    obtain ⟨v, h1, h2⟩ := DRs.get (i := i) (d := d) t (by simpa using e)
    exact ⟨v, by simpa using h1, h2⟩
theorem DRs.append : ∀ {ds es : List PyData} {vs us : List V}, DRs K H ow ds vs → DRs K H ow es us → DRs K H ow (ds ++ es) (vs ++ us)
  | _, _, _, _, .nil, s => s
  | _, _, _, _, .cons h t, s => .cons h (DRs.append t s)
theorem DRs.take : ∀ {ds : List PyData} {vs : List V} (n : Nat), DRs K H ow ds vs → DRs K H ow (ds.take n) (vs.take n)
  | _, _, 0, _ => .nil
  | _, _, _ + 1, .nil => .nil
  | _, _, n + 1, .cons h t => .cons h (DRs.take n t)
theorem DRs.drop : ∀ {ds : List PyData} {vs : List V} (n : Nat), DRs K H ow ds vs → DRs K H ow (ds.drop n) (vs.drop n)
  | _, _, 0, h => h
  | _, _, _ + 1, .nil => .nil
  | _, _, n + 1, .cons _ t => DRs.drop n t
theorem DRs.reverse : ∀ {ds : List PyData} {vs : List V}, DRs K H ow ds vs → DRs K H ow ds.reverse vs.reverse
  | _, _, .nil => .nil
  | _, _, .cons h t => by
    rw [List.reverse_cons, List.reverse_cons]
    exact DRs.append (DRs.reverse t) (.cons h .nil)
theorem DRs.ints : ∀ (ns : List Int), DRs K H ow (ns.map PyData.int) (ns.map V.int)
  | [] => .nil
  | n :: ns => .cons (.int n) (DRs.ints ns)
/-- scalars are known by their data -/
def scalV : PyData → Option V
  | .none => some .non
  | .bool b => some (.bl b)
  | .int i => some (.int i)
  | .str x => some (.str x)
  | _ => none
theorem DR.scal {d : PyData} {v w : V} (h : DR K H ow d v) (e : scalV d = some w) : v = w := by
  cases h <;> cases e <;> rfl
end

/-! ### values with references -/
inductive VR (K : PySem.W.Frag) (H : Hp) (g : G) : Vl → V → Prop
  | d {x : PyData} {v : V} : DR K H g.own x v → VR K H g (.d x) v
  | r {n : Nat} {a : Addr} : g.φ[n]? = some a → VR K H g (.r n) (.ref a)
  | s {ns : List Int} {a : Addr} : LS K H g.own a (ns.map V.int) → VR K H g (.s ns) (.ref a)
inductive VRs (K : PySem.W.Frag) (H : Hp) (g : G) : List Vl → List V → Prop
  | nil : VRs K H g [] []
  | cons {x : Vl} {xs : List Vl} {v : V} {vs : List V} : VR K H g x v → VRs K H g xs vs → VRs K H g (x :: xs) (v :: vs)
inductive KRs (K : PySem.W.Frag) (H : Hp) (g : G) {κ : Type} : List (κ × Vl) → List (κ × V) → Prop
  | nil : KRs K H g [] []
  | cons {k : κ} {x : Vl} {xs : List (κ × Vl)} {v : V} {vs : List (κ × V)} : VR K H g x v → KRs K H g xs vs → KRs K H g ((k, x) :: xs) ((k, v) :: vs)

/-- from one state to a later one -/
structure Ext (g : G) (H : Hp) (g' : G) (H' : Hp) : Prop where
  z : g'.Z = g.Z
  pre : ∃ ψ, g'.φ = g.φ ++ ψ
  keep : ∀ a o, ¬ g.loc a → H a = some o → H' a = some o
  own : ∀ a, g'.loc a → g.loc a ∨ H a = none
  nw : ∀ a, a ∈ g'.φ → a ∈ g.φ ∨ H a = none

section
variable {K : PySem.W.Frag} {H H' H2 : Hp} {g g' g2 : G}
theorem G.loc_mem {g : G} {a : Addr} (h : g.loc a) : a ∈ g.φ := by
  obtain ⟨n, o, h1, _⟩ := h
  exact List.mem_of_getElem? h1
theorem Ext.refl : Ext g H g H := ⟨rfl, ⟨[], by simp⟩, fun _ _ _ h => h, fun _ h => .inl h, fun _ h => .inl h⟩
theorem Ext.trans (e : Ext g H g' H') (f : Ext g' H' g2 H2) : Ext g H g2 H2 := by
  obtain ⟨ψ, p⟩ := e.pre
  obtain ⟨ψ', p'⟩ := f.pre
  refine ⟨f.z.trans e.z, ⟨ψ ++ ψ', by rw [p', p, List.append_assoc]⟩, fun a o n h => ?_, fun a l => ?_, fun a l => ?_⟩
  · refine f.keep a o (fun l => ?_) (e.keep a o n h)
    rcases e.own a l with l | l
    · exact n l
    · rw [h] at l; cases l
  · rcases f.own a l with l | l
    · exact e.own a l
    · by_cases n : g.loc a
      · exact .inl n
      · refine .inr ?_
        cases q : H a with
        | none => rfl
        | some o => rw [e.keep a o n q] at l; cases l
  · rcases f.nw a l with l | l
    · exact e.nw a l
    · by_cases n : a ∈ g.φ
      · exact .inl n
      · refine .inr ?_
        cases q : H a with
        | none => rfl
        | some o => rw [e.keep a o (fun z => n (G.loc_mem z)) q] at l; cases l
theorem Ext.stays (e : Ext g H g' H') : Stays H g.own H' g'.own := by
  refine ⟨fun a o n h => e.keep a o (fun l => n (.inr l)) h, fun a h => ?_⟩
  rcases h with h | h
  · rw [e.z] at h; exact .inl (.inl h)
  · rcases e.own a h with l | l
    · exact .inl (.inr l)
    · exact .inr l
theorem VR.mono (e : Ext g H g' H') {x : Vl} {v : V} (h : VR K H g x v) : VR K H' g' x v := by
  cases h with
  | d h => exact .d (h.mono e.stays)
  | r h =>
    obtain ⟨ψ, p⟩ := e.pre
    refine .r ?_
    rw [p, List.getElem?_append_left (List.getElem?_eq_some_iff.mp h).1]
    exact h
  | s h => exact .s (h.mono e.stays)
theorem VRs.mono (e : Ext g H g' H') : ∀ {xs : List Vl} {vs : List V}, VRs K H g xs vs → VRs K H' g' xs vs
  | _, _, .nil => .nil
  | _, _, .cons h t => .cons (h.mono e) (VRs.mono e t)
theorem KRs.mono (e : Ext g H g' H') {κ : Type} : ∀ {xs : List (κ × Vl)} {vs : List (κ × V)}, KRs K H g xs vs → KRs K H' g' xs vs
  | _, _, .nil => .nil
  | _, _, .cons h t => .cons (h.mono e) (KRs.mono e t)
theorem VRs.length : ∀ {xs : List Vl} {vs : List V}, VRs K H g xs vs → xs.length = vs.length
  | _, _, .nil => rfl
  | _, _, .cons _ t => congrArg Nat.succ t.length
theorem VRs.get : ∀ {xs : List Vl} {vs : List V} {i : Nat} {x : Vl}, VRs K H g xs vs → xs[i]? = some x → ∃ v, vs[i]? = some v ∧ VR K H g x v
  | _, _, _, _, .nil, e => by simp at e
  | _, _, 0, _, .cons h _, e => by simp at e; subst e; exact ⟨_, rfl, h⟩
  | _, _, i + 1, x, .cons _ t, e => by
    obtain ⟨v, h1, h2⟩ := VRs.get (i := i) (x := x) t (by simpa using e)
    exact ⟨v, by simpa using h1, h2⟩
theorem VRs.append : ∀ {xs ys : List Vl} {vs us : List V}, VRs K H g xs vs → VRs K H g ys us → VRs K H g (xs ++ ys) (vs ++ us)
  | _, _, _, _, .nil, s => s
  | _, _, _, _, .cons h t, s => .cons h (VRs.append t s)
theorem VRs.set {x : Vl} {v : V} (r : VR K H g x v) : ∀ {xs : List Vl} {vs : List V} (i : Nat), VRs K H g xs vs → VRs K H g (xs.set i x) (vs.set i v)
  | _, _, _, .nil => .nil
  | _, _, 0, .cons _ t => .cons r t
  | _, _, i + 1, .cons q t => .cons q (VRs.set r i t)
theorem VRs.dropLast {xs : List Vl} {vs : List V} (h : VRs K H g xs vs) : VRs K H g xs.dropLast vs.dropLast := by
  induction h with
  | nil => exact .nil
  | cons h t ih =>
    cases t with
    | nil => exact .nil
    | cons h2 t2 => exact .cons h ih
theorem VRs.eraseIdx : ∀ {xs : List Vl} {vs : List V} (i : Nat), VRs K H g xs vs → VRs K H g (xs.eraseIdx i) (vs.eraseIdx i)
  | _, _, _, .nil => .nil
  | _, _, 0, .cons _ t => t
  | _, _, i + 1, .cons h t => .cons h (VRs.eraseIdx i t)
theorem VRs.drop : ∀ {xs : List Vl} {vs : List V} (n : Nat), VRs K H g xs vs → VRs K H g (xs.drop n) (vs.drop n)
  | _, _, 0, h => h
  | _, _, _ + 1, .nil => .nil
  | _, _, n + 1, .cons _ t => VRs.drop n t
theorem VRs.take : ∀ {xs : List Vl} {vs : List V} (n : Nat), VRs K H g xs vs → VRs K H g (xs.take n) (vs.take n)
  | _, _, 0, _ => .nil
  | _, _, _ + 1, .nil => .nil
  | _, _, n + 1, .cons h t => .cons h (VRs.take n t)
theorem VRs.rep {xs : List Vl} {vs : List V} (h : VRs K H g xs vs) : ∀ k : Nat, VRs K H g (List.replicate k xs).flatten (List.replicate k vs).flatten
  | 0 => .nil
  | k + 1 => by
    rw [List.replicate_succ, List.flatten_cons, List.replicate_succ, List.flatten_cons]
    exact h.append (VRs.rep h k)
theorem VRs.ofD : ∀ {ds : List PyData} {vs : List V}, DRs K H g.own ds vs → VRs K H g (ds.map Vl.d) vs
  | _, _, .nil => .nil
  | _, _, .cons h t => .cons (.d h) (VRs.ofD t)
end

/-- all data -/
def toDs : List Vl → Option (List PyData)
  | [] => some []
  | .d x :: xs => (toDs xs).map (x :: ·)
  | .r _ :: _ => none
  | .s _ :: _ => none
theorem VRs.toD {K : PySem.W.Frag} {H : Hp} {g : G} : ∀ {xs : List Vl} {vs : List V} {ds : List PyData}, VRs K H g xs vs → toDs xs = some ds → DRs K H g.own ds vs
  | _, _, _, .nil, e => by cases e; exact .nil
  | _, _, _, .cons (.d h) t, e => by
    unfold toDs at e
    obtain ⟨es, e1, e2⟩ := Option.map_eq_some_iff.mp e
    subst e2
    exact .cons h (VRs.toD t e1)
  | _, _, _, .cons (.r _) _, e => by cases e
  | _, _, _, .cons (.s _) _, e => by cases e

/-! ### the heap's relation -/
def OR (K : PySem.W.Frag) (H : Hp) (g : G) (a : Addr) : O → Prop
  | .lst xs => ∃ vs, H a = some (.lst vs) ∧ VRs K H g xs vs
  | .dic kvs => ∃ vs, H a = some (.dK vs) ∧ KRs K H g kvs vs
  | .dit kvs => ∃ vs, H a = some (.dT vs) ∧ KRs K H g kvs vs
  | .gone => ∃ o, H a = some o
structure HR (K : PySem.W.Frag) (H : Hp) (g : G) : Prop where
  len : g.φ.length = g.h.length
  inj : g.φ.Nodup
  obj : ∀ (n : Nat) (o : O) (a : Addr), g.h[n]? = some o → g.φ[n]? = some a → OR K H g a o
  dis : ∀ a, g.Z a → a ∉ g.φ
  zs : ∀ a, g.Z a → ∃ o, H a = some o
def SR (K : PySem.W.Frag) (H : Hp) (g : G) (ρ : Env') (σ : St) : Prop := ρ.length = σ.length ∧ ∀ (i : Nat) (x : Vl), ρ[i]? = some (some x) → ∃ v, σ[i]? = some (some v) ∧ VR K H g x v

section
variable {K : PySem.W.Frag} {H H' : Hp} {g g' : G} {ρ : Env'} {σ : St}
theorem SR.mono (e : Ext g H g' H') (s : SR K H g ρ σ) : SR K H' g' ρ σ := ⟨s.1, fun i x h => by
  obtain ⟨v, h1, h2⟩ := s.2 i x h
  exact ⟨v, h1, h2.mono e⟩⟩
theorem SR.set (s : SR K H g ρ σ) {x : Vl} {v : V} (r : VR K H g x v) (i : Nat) : SR K H g (ρ.set i (some x)) (σ.set i (some v)) := by
  refine ⟨by rw [List.length_set, List.length_set]; exact s.1, fun j y h => ?_⟩
  by_cases e : i = j
  · subst e
    by_cases hl : i < ρ.length
    · rw [List.getElem?_set_self hl] at h
      cases h
      exact ⟨v, List.getElem?_set_self (by rw [← s.1]; exact hl), r⟩
    · rw [List.getElem?_eq_none (by rw [List.length_set]; omega)] at h
      cases h
  · rw [List.getElem?_set_ne e] at h
    obtain ⟨u, h1, h2⟩ := s.2 j y h
    exact ⟨u, by rw [List.getElem?_set_ne e]; exact h1, h2⟩
theorem OR.some {a : Addr} {o : O} (h : OR K H g a o) : ∃ u, H a = some u := by
  cases o with
  | lst xs => obtain ⟨_, h, _⟩ := h; exact ⟨_, h⟩
  | dic xs => obtain ⟨_, h, _⟩ := h; exact ⟨_, h⟩
  | dit xs => obtain ⟨_, h, _⟩ := h; exact ⟨_, h⟩
  | gone => exact h
theorem HR.at_ (R : HR K H g) {n : Nat} {o : O} (h : g.h[n]? = some o) : ∃ a, g.φ[n]? = some a := by
  have hl := (List.getElem?_eq_some_iff.mp h).1
  exact ⟨_, List.getElem?_eq_getElem (by rw [R.len]; exact hl)⟩
theorem HR.ofφ (R : HR K H g) {a : Addr} (h : a ∈ g.φ) : ∃ u, H a = some u := by
  obtain ⟨n, e⟩ := List.getElem?_of_mem h
  have hl : n < g.h.length := by rw [← R.len]; exact (List.getElem?_eq_some_iff.mp e).1
  exact (R.obj n _ a (List.getElem?_eq_getElem hl) e).some
theorem HR.uniq (R : HR K H g) {n m : Nat} {a : Addr} (h1 : g.φ[n]? = some a) (h2 : g.φ[m]? = some a) : n = m := by
  obtain ⟨l1, e1⟩ := List.getElem?_eq_some_iff.mp h1
  obtain ⟨l2, e2⟩ := List.getElem?_eq_some_iff.mp h2
  exact (List.getElem_inj R.inj).mp (e1.trans e2.symm)
theorem HR.newφ (R : HR K H g) {p : Addr} (h : H p = none) : p ∉ g.φ := fun m => by
  obtain ⟨u, e⟩ := R.ofφ m
  rw [h] at e; cases e
theorem HR.newZ (R : HR K H g) {p : Addr} (h : H p = none) : ¬ g.Z p := fun m => by
  obtain ⟨u, e⟩ := R.zs p m
  rw [h] at e; cases e
theorem HR.new_own (R : HR K H g) {p : Addr} (h : H p = none) : ¬ g.own p := by
  rintro (m | ⟨n, o, m, _⟩)
  · exact R.newZ h m
  · exact R.newφ h (List.mem_of_getElem? m)
theorem OR.mono (e : Ext g H g' H') {a : Addr} (k : ∀ u, H a = Option.some u → H' a = Option.some u) : ∀ {o : O}, OR K H g a o → OR K H' g' a o
  | .lst _, ⟨vs, h, r⟩ => ⟨vs, k _ h, r.mono e⟩
  | .dic _, ⟨vs, h, r⟩ => ⟨vs, k _ h, r.mono e⟩
  | .dit _, ⟨vs, h, r⟩ => ⟨vs, k _ h, r.mono e⟩
  | .gone, ⟨u, h⟩ => ⟨u, k _ h⟩
/-- a new real object that is not ours -/
theorem Ext.laid (p : Addr) (u : HO) (h : H p = none) : Ext g H g (upd H p u) :=
  ⟨rfl, ⟨[], by simp⟩, fun a o _ e => by rw [upd_ne (ne_of_none e h)]; exact e, fun _ l => .inl l, fun _ l => .inl l⟩
theorem HR.laid (R : HR K H g) (p : Addr) (u : HO) (h : H p = none) : HR K (upd H p u) g :=
  ⟨R.len, R.inj, fun n o a h1 h2 => (R.obj n o a h1 h2).mono (Ext.laid p u h) fun w e => by rw [upd_ne (ne_of_none e h)]; exact e, R.dis,
    fun a z => by obtain ⟨o, e⟩ := R.zs a z; exact ⟨o, by rw [upd_ne (ne_of_none e h)]; exact e⟩⟩
/-- all kept -/
theorem Ext.same (k : ∀ a o, H a = some o → H' a = some o) : Ext g H g H' := ⟨rfl, ⟨[], by simp⟩, fun a o _ e => k a o e, fun _ l => .inl l, fun _ l => .inl l⟩
theorem HR.same (R : HR K H g) (k : ∀ a o, H a = some o → H' a = some o) : HR K H' g :=
  ⟨R.len, R.inj, fun n o a h1 h2 => (R.obj n o a h1 h2).mono (Ext.same k) (k a), R.dis, fun a z => by obtain ⟨o, e⟩ := R.zs a z; exact ⟨o, k a o e⟩⟩

/-- a new object of ours -/
def G.push (g : G) (p : Addr) (o : O) : G := ⟨g.Z, g.φ ++ [p], g.h ++ [o]⟩
theorem G.push_loc (R : HR K H g) {p : Addr} {o : O} {a : Addr} (h : (g.push p o).loc a) : g.loc a ∨ a = p := by
  obtain ⟨n, u, h1, h2, h3⟩ := h
  by_cases hn : n < g.φ.length
  · have h1 : (g.φ ++ [p])[n]? = some a := h1
    have h2 : (g.h ++ [o])[n]? = some u := h2
    rw [List.getElem?_append_left hn] at h1
    rw [List.getElem?_append_left (by rw [← R.len]; exact hn)] at h2
    exact .inl ⟨n, u, h1, h2, h3⟩
  · have h1 : (g.φ ++ [p])[n]? = some a := h1
    rw [List.getElem?_append_right (by omega)] at h1
    have hm : a ∈ [p] := List.mem_of_getElem? h1
    exact .inr (by simpa using hm)
theorem Ext.push (R : HR K H g) {p : Addr} {o : O} {u : HO} (h : H p = none) : Ext g H (g.push p o) (upd H p u) := by
  refine ⟨rfl, ⟨[p], rfl⟩, fun a w _ e => by rw [upd_ne (ne_of_none e h)]; exact e, fun a l => ?_, fun a l => ?_⟩
  · rcases G.push_loc R l with l | l
    · exact .inl l
    · subst l; exact .inr h
  · rcases List.mem_append.mp (show a ∈ g.φ ++ [p] from l) with l | l
    · exact .inl l
    · have : a = p := by simpa using l
      subst this; exact .inr h
theorem HR.push (R : HR K H g) {p : Addr} {o : O} {u : HO} (h : H p = none) (q : OR K (upd H p u) (g.push p o) p o) : HR K (upd H p u) (g.push p o) := by
  have hp := R.newφ h
  refine ⟨by show (g.φ ++ [p]).length = (g.h ++ [o]).length; simp [R.len], ?_, fun n o' a h1 h2 => ?_, fun a z => ?_, fun a z => ?_⟩
  · show (g.φ ++ [p]).Nodup
    rw [List.nodup_append]
    exact ⟨R.inj, by simp, fun a ha b hb => by
      have : b = p := by simpa using hb
      subst this
      rintro rfl
      exact hp ha⟩
  · have h1 : (g.h ++ [o])[n]? = some o' := h1
    have h2 : (g.φ ++ [p])[n]? = some a := h2
    by_cases hn : n < g.φ.length
    · rw [List.getElem?_append_left (by rw [← R.len]; exact hn)] at h1
      rw [List.getElem?_append_left hn] at h2
      exact (R.obj n o' a h1 h2).mono (Ext.push R h) fun w e => by rw [upd_ne (ne_of_none e h)]; exact e
    · rw [List.getElem?_append_right (by rw [← R.len]; omega)] at h1
      rw [List.getElem?_append_right (by omega)] at h2
      have m1 : o' ∈ [o] := List.mem_of_getElem? h1
      have m2 : a ∈ [p] := List.mem_of_getElem? h2
      have e1 : o' = o := by simpa using m1
      have e2 : a = p := by simpa using m2
      subst e1 e2
      exact q
  · show a ∉ g.φ ++ [p]
    intro m
    rcases List.mem_append.mp m with m | m
    · exact R.dis a z m
    · have : a = p := by simpa using m
      subst this
      exact R.newZ h z
  · obtain ⟨w, e⟩ := R.zs a z
    exact ⟨w, by rw [upd_ne (ne_of_none e h)]; exact e⟩

/-- an object of ours is rewritten -/
def G.put (g : G) (n : Nat) (o : O) : G := ⟨g.Z, g.φ, g.h.set n o⟩
theorem G.put_loc {n : Nat} {o o0 : O} {a : Addr} (h0 : g.h[n]? = some o0) (l0 : o0.live = true) (h : (g.put n o).loc a) : g.loc a := by
  obtain ⟨m, u, h1, h2, h3⟩ := h
  have h2 : (g.h.set n o)[m]? = some u := h2
  by_cases e : n = m
  · subst e
    exact ⟨n, o0, h1, h0, l0⟩
  · rw [List.getElem?_set_ne e] at h2
    exact ⟨m, u, h1, h2, h3⟩
theorem Ext.put {n : Nat} {o o0 : O} {p : Addr} {u : HO} (h0 : g.h[n]? = some o0) (l0 : o0.live = true) (hp : g.φ[n]? = some p) : Ext g H (g.put n o) (upd H p u) := by
  refine ⟨rfl, ⟨[], by simp [G.put]⟩, fun a w nl e => ?_, fun a l => .inl (G.put_loc h0 l0 l), fun _ l => .inl l⟩
  have : a ≠ p := fun e => nl ⟨n, o0, by rw [e]; exact hp, h0, l0⟩
  rw [upd_ne this]
  exact e
theorem HR.put (R : HR K H g) {n : Nat} {o o0 : O} {p : Addr} {u : HO} (h0 : g.h[n]? = some o0) (l0 : o0.live = true) (hp : g.φ[n]? = some p)
    (q : OR K (upd H p u) (g.put n o) p o) : HR K (upd H p u) (g.put n o) := by
  refine ⟨by show g.φ.length = (g.h.set n o).length; rw [List.length_set]; exact R.len, R.inj, fun m o' a h1 h2 => ?_, R.dis, fun a z => ?_⟩
  · have h1 : (g.h.set n o)[m]? = some o' := h1
    have h2 : g.φ[m]? = some a := h2
    by_cases e : n = m
    · subst e
      rw [List.getElem?_set_self (List.getElem?_eq_some_iff.mp h0).1] at h1
      cases h1
      rw [hp] at h2
      cases h2
      exact q
    · rw [List.getElem?_set_ne e] at h1
      have na : a ≠ p := fun z => e (R.uniq hp (by rw [z] at h2; exact h2))
      exact (R.obj m o' a h1 h2).mono (Ext.put h0 l0 hp) fun w e => by rw [upd_ne na]; exact e
  · obtain ⟨w, e⟩ := R.zs a z
    by_cases na : a = p
    · subst na
      exact ⟨u, upd_same⟩
    · exact ⟨w, by rw [upd_ne na]; exact e⟩
/-- an object of ours is let go: from here on it stays as it is -/
theorem Ext.gone {n : Nat} {o0 : O} (h0 : g.h[n]? = some o0) (l0 : o0.live = true) : Ext g H (g.put n .gone) H :=
  ⟨rfl, ⟨[], by simp [G.put]⟩, fun _ _ _ e => e, fun a l => .inl (G.put_loc h0 l0 l), fun _ l => .inl l⟩
theorem HR.gone (R : HR K H g) {n : Nat} {o0 : O} (h0 : g.h[n]? = some o0) (l0 : o0.live = true) : HR K H (g.put n .gone) := by
  refine ⟨by show g.φ.length = (g.h.set n .gone).length; rw [List.length_set]; exact R.len, R.inj, fun m o' a h1 h2 => ?_, R.dis, R.zs⟩
  have h1 : (g.h.set n .gone)[m]? = some o' := h1
  have h2 : g.φ[m]? = some a := h2
  by_cases e : n = m
  · subst e
    rw [List.getElem?_set_self (List.getElem?_eq_some_iff.mp h0).1] at h1
    cases h1
    exact (R.obj n o0 a h0 h2).some
  · rw [List.getElem?_set_ne e] at h1
    exact (R.obj m o' a h1 h2).mono (Ext.gone h0 l0) fun w e => e
theorem HR.gone_own (R : HR K H g) {n : Nat} {o0 : O} {p : Addr} (h0 : g.h[n]? = some o0) (hp : g.φ[n]? = some p) : ¬ (g.put n .gone).own p := by
  rintro (z | ⟨m, o, h1, h2, h3⟩)
  · exact R.dis p z (List.mem_of_getElem? hp)
  · have e := R.uniq hp h1
    subst e
    have h2 : (g.h.set n .gone)[n]? = some o := h2
    rw [List.getElem?_set_self (List.getElem?_eq_some_iff.mp h0).1] at h2
    cases h2
    cases h3
end
end MP

namespace MP
open PySem PySem.Spec L2

/-! ### what the operations are worth, over data -/
inductive BO | add | sub | mul | fdiv | mod | pow | shl | shr | band
inductive CO | eq | ne | lt | le | gt | ge | is_ | isn | in_ | nin
/-- built-in functions of data -/
inductive PR | len | abs | int | max1 | min1 | max2 | min2 | sum | sorted | tuple | list | all | any | lrange1 | lrange2 | lrange3 | trange1 | trange2 | lenset | sortset | isInt | isBool | isTup | isStr | isList | lzip2 | cnt | index

def line : Nat := 16777216
def okLen (n : Nat) : Bool := Nat.ble n 16777216
def mulOk (i j : Int) : Bool := Nat.blt i.natAbs 18446744073709551616 || (Nat.blt j.natAbs 18446744073709551616 || Nat.ble (i.natAbs.log2 + j.natAbs.log2) 999999)
def sixty2 (i : Int) : Bool := decide (-(2 ^ 62) ≤ i) && decide (i < 2 ^ 62)
/-- shaped, by a depth -/
def shp : Nat → PyData → Bool
  | 0, _ => false
  | _ + 1, .none => true
  | _ + 1, .bool _ => true
  | _ + 1, .int _ => true
  | _ + 1, .str x => (PyData.str x).canLay0
  | n + 1, .list xs => xs.all (shp n)
  | n + 1, .tuple xs => xs.all (shp n)
  | _ + 1, .dict _ => false
def shp64 (d : PyData) : Bool := shp 64 d
def eqD : PyData → PyData → Option Bool
  | .int i, .int j => some (i == j)
  | a, b => if shp64 a && shp64 b then some (PyData.eqv a b) else none
mutual
def ltD : PyData → PyData → Option Bool
  | .int i, .int j => some (decide (i < j))
  | .tuple xs, .tuple ys => ltDs xs ys
  | .list xs, .list ys => ltDs xs ys
  | _, _ => none
def ltDs : List PyData → List PyData → Option Bool
  | [], [] => some false
  | [], _ :: _ => some true
  | _ :: _, [] => some false
  | x :: xs, y :: ys => match ltDs xs ys with
    | none => none
    | some r => if PyData.eqv x y then some r else ltD x y
end
def ltS (a b : PyData) : Option Bool := if shp64 a && shp64 b then ltD a b else none

def binD : BO → PyData → PyData → Option PyData
  | .add, .int i, .int j => some (.int (i + j))
  | .add, .tuple xs, .tuple ys => if okLen (xs.length + ys.length) then some (.tuple (xs ++ ys)) else none
  | .add, .list xs, .list ys => if okLen (xs.length + ys.length) then some (.list (xs ++ ys)) else none
  | .sub, .int i, .int j => some (.int (i - j))
  | .mul, .int i, .int j => if mulOk i j then some (.int (i * j)) else none
  | .mul, .tuple xs, .int k => if okLen (xs.length * k.toNat) && (decide (-(2 ^ 63) ≤ k) && decide (k < 2 ^ 63)) then some (.tuple (List.replicate k.toNat xs).flatten) else none
  | .mul, .list xs, .int k => if okLen (xs.length * k.toNat) && (decide (-(2 ^ 63) ≤ k) && decide (k < 2 ^ 63)) then some (.list (List.replicate k.toNat xs).flatten) else none
  | .fdiv, .int i, .int j => if decide (0 < j) then (if Nat.blt j.natAbs.log2 9000 then some (.int (i / j)) else none) else if decide (j < 0) && Nat.blt j.natAbs 1073741824 then some (.int (i.fdiv j)) else none
  | .mod, .int i, .int j => if decide (0 < j) then some (.int (i % j)) else if decide (j < 0) then some (.int (i.fmod j)) else none
  | .pow, .int i, .int j => if decide (0 ≤ j) && (decide (j ≤ 1000000) && Nat.blt i.natAbs 18446744073709551616) then some (.int (i ^ j.toNat)) else none
  | .shl, .int i, .int j => if decide (0 ≤ j) && (decide (j ≤ 1000000) && Nat.blt i.natAbs 18446744073709551616) then some (.int (i * 2 ^ j.toNat)) else none
  | .shr, .int i, .int j => if decide (0 ≤ j) then some (.int (i / 2 ^ j.toNat)) else none
  | .band, .int i, .int j => some (.int (Builtin.bitAnd i j))
  | _, _, _ => none
def inDs (d : PyData) (ds : List PyData) : Option Bool := if shp64 d && shp64 (.list ds) then some (ds.any fun z => PyData.eqv z d) else none
def isD : PyData → PyData → Option Bool
  | .none, .none => some true
  | _, .none => some false
  | .bool a, .bool b => some (a == b)
  | _, _ => none
def ltQ : PyData → PyData → Option Bool
  | .int i, .int j => some (decide (i < j))
  | a, b => ltS a b
def leI : PyData → PyData → Option Bool
  | .int i, .int j => some (decide (i ≤ j))
  | _, _ => none
def inQ (d : PyData) : PyData → Option Bool
  | .list ds => inDs d ds
  | .tuple ds => inDs d ds
  | _ => none
def gtI : PyData → PyData → Option Bool
  | .int i, .int j => some (decide (j < i))
  | _, _ => none
def cmpD (o : CO) (a b : PyData) : Option Bool := match o with
  | .eq => eqD a b
  | .ne => (eqD a b).map (!·)
  | .lt => ltQ a b
  | .le => leI a b
  | .gt => gtI a b
  | .ge => leI b a
  | .is_ => isD a b
  | .isn => (isD a b).map (!·)
  | .in_ => inQ a b
  | .nin => (inQ a b).map (!·)
def negD : PyData → Option PyData
  | .int i => some (.int (-i))
  | _ => none
def cutL {α : Type} (xs : List α) (lo hi : Option Int) : List α := (xs.drop (HT.sIx xs.length 0 lo)).take (HT.sIx xs.length xs.length hi - HT.sIx xs.length 0 lo)
def slD (lo hi : Option Int) : PyData → Option PyData
  | .list xs => some (.list (cutL xs lo hi))
  | .tuple xs => some (.tuple (cutL xs lo hi))
  | _ => none
def revD : PyData → Option PyData
  | .list xs => some (.list xs.reverse)
  | .tuple xs => some (.tuple xs.reverse)
  | _ => none
def seqD : PyData → Option (List PyData)
  | .list xs => some xs
  | .tuple xs => some xs
  | _ => none
def intsD : List PyData → Option (List Int)
  | [] => some []
  | .int i :: xs => (intsD xs).map (i :: ·)
  | _ :: _ => none
def boolsD : List PyData → Option (List Bool)
  | [] => some []
  | .bool b :: xs => (boolsD xs).map (b :: ·)
  | _ :: _ => none
def upTo (lo : Int) : Nat → List PyData
  | 0 => []
  | n + 1 => .int lo :: upTo (lo + 1) n

/-! ### the small heap: reading -/
def cur (h : Hm) : Vl → Option PyData
  | .d x => some x
  | .r n => match h[n]? with
    | some (.lst xs) => (toDs xs).map .list
    | _ => none
  | .s _ => none
/-- .. the script too -/
def curS (h : Hm) : Vl → Option PyData
  | .s ns => some (.list (ns.map .int))
  | w => cur h w
/-- no object of ours among them -/
def pureV : List Vl → Bool
  | [] => true
  | .r _ :: _ => false
  | _ :: ws => pureV ws
abbrev Cm := Env' → Hm → Option (Vl × Hm)
abbrev Cms := Env' → Hm → Option (List Vl × Hm)
abbrev Ct := Env' → Hm → Option (Bool × Hm)
abbrev Cg := Vl → Env' → Hm → Option (Env' × Hm)
inductive Fl where
  | nx (ρ : Env') | bk (ρ : Env') | ct (ρ : Env') | rt (w : Vl)
abbrev Cs := Env' → Hm → Option (Fl × Hm)

/-! ### expressions, by combinators -/
def cVar (i : Nat) : Cm := fun ρ h => match ρ[i]? with
  | some (some w) => some (w, h)
  | _ => none
def cC (x : PyData) : Cm := fun _ h => some (.d x, h)
def cBin (o : BO) (a b : Cm) : Cm := fun ρ h => match a ρ h with
  | none => none
  | some (x, h1) => match b ρ h1 with
    | none => none
    | some (y, h2) => match cur h2 x, cur h2 y with
      | some dx, some dy => match binD o dx dy with
        | some d => some (.d d, h2)
        | none => none
      | _, _ => none
def cNeg (a : Cm) : Cm := fun ρ h => match a ρ h with
  | some (.d (.int i), h1) => some (.d (.int (-i)), h1)
  | _ => none
def keyOf : PyData → Option Key
  | .int i => some (.inl i)
  | .str x => some (.inr x)
  | _ => none
def keysOf : List PyData → Option (List Key)
  | [] => some []
  | d :: ds => match keyOf d, keysOf ds with
    | some k, some ks => some (k :: ks)
    | _, _ => none
def keyT : PyData → Option (List Key)
  | .tuple ds => keysOf ds
  | _ => none
def look {κ : Type} [DecidableEq κ] : List (κ × Vl) → κ → Option Vl
  | [], _ => none
  | (k, v) :: r, q => if k = q then some v else look r q
/-- in a dict -/
def inO : O → PyData → Option Bool
  | .dic kvs, d => match keyOf d with
    | some k => some (look kvs k).isSome
    | none => none
  | .dit kvs, d => match keyT d with
    | some k => some (look kvs k).isSome
    | none => none
  | _, _ => none
/-- in a list of ours, in a dict of ours -/
def inR (h : Hm) (d : PyData) (n : Nat) : Option Bool := match h[n]? with
  | some (.lst xs) => match toDs xs with
    | some ds => inDs d ds
    | none => none
  | some u => inO u d
  | none => none
def cmpV (o : CO) (h : Hm) (x y : Vl) : Option Bool :=
  match o, x, y with
  | .in_, .d d, .r n => inR h d n
  | .nin, .d d, .r n => (inR h d n).map (!·)
  | .is_, .r _, .d .none => some false
  | .isn, .r _, .d .none => some true
  | o, x, y => match cur h x, cur h y with
    | some dx, some dy => cmpD o dx dy
    | _, _ => none
def cCmpB (o : CO) (a b : Cm) : Ct := fun ρ h => match a ρ h with
  | none => none
  | some (x, h1) => match b ρ h1 with
    | none => none
    | some (y, h2) => match cmpV o h2 x y with
      | some r => some (r, h2)
      | none => none
def ofB (c : Ct) : Cm := fun ρ h => match c ρ h with
  | some (b, h1) => some (.d (.bool b), h1)
  | none => none
def toB (c : Cm) : Ct := fun ρ h => match c ρ h with
  | some (.d (.bool b), h1) => some (b, h1)
  | _ => none
def cCh2 (o p : CO) (a b c : Cm) : Ct := fun ρ h => match a ρ h with
  | none => none
  | some (x, h1) => match b ρ h1 with
    | none => none
    | some (y, h2) => match cmpV o h2 x y with
      | none => none
      | some false => some (false, h2)
      | some true => match c ρ h2 with
        | none => none
        | some (z, h3) => match cmpV p h3 y z with
          | some r => some (r, h3)
          | none => none
def cAnd (a b : Ct) : Ct := fun ρ h => match a ρ h with
  | none => none
  | some (false, h1) => some (false, h1)
  | some (true, h1) => b ρ h1
def cOr (a b : Ct) : Ct := fun ρ h => match a ρ h with
  | none => none
  | some (true, h1) => some (true, h1)
  | some (false, h1) => b ρ h1
def cNot (a : Ct) : Ct := fun ρ h => match a ρ h with
  | none => none
  | some (b, h1) => some (!b, h1)
def cIf (c : Ct) (a b : Cm) : Cm := fun ρ h => match c ρ h with
  | none => none
  | some (true, h1) => a ρ h1
  | some (false, h1) => b ρ h1
def cNil : Cms := fun _ h => some ([], h)
def cCons (a : Cm) (b : Cms) : Cms := fun ρ h => match a ρ h with
  | none => none
  | some (x, h1) => match b ρ h1 with
    | none => none
    | some (xs, h2) => some (x :: xs, h2)
def cTup (as : Cms) : Cm := fun ρ h => match as ρ h with
  | none => none
  | some (xs, h1) => match toDs xs with
    | some ds => if okLen ds.length then some (.d (.tuple ds), h1) else none
    | none => none
/-- a list just made, as data; as ours -/
def cFl (f : Cms) : Cm := fun ρ h => match f ρ h with
  | none => none
  | some (xs, h1) => match toDs xs with
    | some ds => some (.d (.list ds), h1)
    | none => none
def cFm (f : Cms) : Cm := fun ρ h => match f ρ h with
  | none => none
  | some (xs, h1) => some (.r h1.length, h1 ++ [.lst xs])
def cDisp (as : Cms) : Cms := fun ρ h => match as ρ h with
  | none => none
  | some (xs, h1) => if okLen xs.length then some (xs, h1) else none
def cRep (f : Cms) (e : Cm) : Cms := fun ρ h => match f ρ h with
  | none => none
  | some (xs, h1) => match e ρ h1 with
    | some (.d (.int k), h2) => if okLen (xs.length * k.toNat) && (decide (-(2 ^ 63) ≤ k) && decide (k < 2 ^ 63)) then some ((List.replicate k.toNat xs).flatten, h2) else none
    | _ => none
def cListOf (a : Cm) : Cms := fun ρ h => match a ρ h with
  | none => none
  | some (x, h1) => match cur h1 x with
    | some (.list ds) => some (ds.map .d, h1)
    | some (.tuple ds) => some (ds.map .d, h1)
    | _ => none
/-- a list expression that gives data (sum, slice, sorted, ..): as a new list -/
def cOfE (a : Cm) : Cms := fun ρ h => match a ρ h with
  | some (.d (.list ds), h1) => some (ds.map .d, h1)
  | _ => none
def ixL (xs : List PyData) (y : PyData) : Option Vl := match y with
  | .int i => (atI xs i).map .d
  | _ => none
def ixV (h : Hm) (x : Vl) (y : PyData) : Option Vl := match x with
  | .d (.list xs) => ixL xs y
  | .d (.tuple xs) => ixL xs y
  | .d _ => none
  | .s ns => ixL (ns.map .int) y
  | .r n => match h[n]? with
    | some (.lst xs) => match y with
      | .int i => atI xs i
      | _ => none
    | some (.dic kvs) => match keyOf y with
      | some k => look kvs k
      | none => none
    | some (.dit kvs) => match keyT y with
      | some k => look kvs k
      | none => none
    | _ => none
def cIx (a b : Cm) : Cm := fun ρ h => match a ρ h with
  | none => none
  | some (x, h1) => match b ρ h1 with
    | some (.d y, h2) => match ixV h2 x y with
      | some z => some (z, h2)
      | none => none
    | _ => none
def cPart (a : Cm) : Env' → Hm → Option (Option Int × Hm) := fun ρ h => match a ρ h with
  | some (.d (.int i), h1) => some (some i, h1)
  | _ => none
def cNoPart : Env' → Hm → Option (Option Int × Hm) := fun _ h => some (none, h)
def cSl (a : Cm) (lo hi : Env' → Hm → Option (Option Int × Hm)) : Cm := fun ρ h => match a ρ h with
  | none => none
  | some (x, h1) => match lo ρ h1 with
    | none => none
    | some (l, h2) => match hi ρ h2 with
      | none => none
      | some (u, h3) => match cur h3 x with
        | some d => match slD l u d with
          | some z => some (.d z, h3)
          | none => none
        | none => none
def cRev (a : Cm) : Cm := fun ρ h => match a ρ h with
  | none => none
  | some (x, h1) => match cur h1 x with
    | some d => match revD d with
      | some z => some (.d z, h1)
      | none => none
    | none => none
def dist : List Key → Bool
  | [] => true
  | k :: ks => !(ks.any fun j => decide (j = k)) && dist ks
def cDic (ks : List Key) (as : Cms) : Cm := fun ρ h => match as ρ h with
  | none => none
  | some (xs, h1) => some (.r h1.length, h1 ++ [.dic (ks.zip xs)])
def cDit : Cm := fun _ h => some (.r h.length, h ++ [.dit []])

/-! ### calls -/
abbrev Orc := Nat → List Vl → Hm → Option (Vl × Hm)
def cCall (C : Orc) (f : Nat) (as : Cms) : Cm := fun ρ h => match as ρ h with
  | none => none
  | some (xs, h1) => C f xs h1
mutual
/-- no list in it -/
def noL : PyData → Bool
  | .list _ => false
  | .tuple xs => noLs xs
  | .dict _ => false
  | .none => true
  | .bool _ => true
  | .int _ => true
  | .str _ => true
def noLs : List PyData → Bool
  | [] => true
  | x :: xs => noL x && noLs xs
end
def lend (h : Hm) : List Vl → Option (List Vl)
  | [] => some []
  | w :: ws => match w with
    | .r n => match cur h (.r n), lend h ws with
      | some d, some us => some (.d d :: us)
      | _, _ => none
    | w => (lend h ws).map (w :: ·)
def cCallP (C : Orc) (f : Nat) (as : Cms) : Cm := fun ρ h => match as ρ h with
  | none => none
  | some (xs, h1) => if pureV xs then match C f xs [] with
      | some (.d d, _) => some (.d d, h1)
      | _ => none
    else match lend h1 xs with
      | some us => match C f us [] with
        | some (.d d, _) => if noL d then some (.d d, h1) else none
        | _ => none
      | none => none

/-! ### statements -/
def sNil : Cs := fun ρ h => some (.nx ρ, h)
def sCons (a b : Cs) : Cs := fun ρ h => match a ρ h with
  | some (.nx ρ', h1) => b ρ' h1
  | r => r
def gNm (i : Nat) : Cg := fun w ρ h => some (ρ.set i (some w), h)
def gsNil : List Vl → Env' → Hm → Option (Env' × Hm) := fun ws ρ h => match ws with
  | [] => some (ρ, h)
  | _ => none
def gsCons (g : Cg) (gs : List Vl → Env' → Hm → Option (Env' × Hm)) : List Vl → Env' → Hm → Option (Env' × Hm) := fun ws ρ h => match ws with
  | [] => none
  | w :: ws => match g w ρ h with
    | none => none
    | some (ρ1, h1) => gs ws ρ1 h1
def gTp (gs : List Vl → Env' → Hm → Option (Env' × Hm)) : Cg := fun w ρ h => match w with
  | .d (.tuple xs) => gs (xs.map .d) ρ h
  | _ => none
def putV {κ : Type} [DecidableEq κ] (kvs : List (κ × Vl)) (k : κ) (w : Vl) : List (κ × Vl) :=
  if (kvs.any fun kv => decide (kv.1 = k)) = true then kvs.map (fun kv => if kv.1 = k then (kv.1, w) else kv) else kvs ++ [(k, w)]
def putAt (h : Hm) (o : Vl) (i : PyData) (w : Vl) : Option Hm := match o with
  | .r n => match h[n]? with
    | some (.lst xs) => match i with
      | .int i => match ixN xs.length i with
        | some j => some (h.set n (.lst (xs.set j w)))
        | none => none
      | _ => none
    | some (.dic kvs) => match keyOf i with
      | some k => if okLen (kvs.length + 1) then some (h.set n (.dic (putV kvs k w))) else none
      | none => none
    | some (.dit kvs) => match keyT i with
      | some k => if okLen (kvs.length + 1) then some (h.set n (.dit (putV kvs k w))) else none
      | none => none
    | _ => none
  | _ => none
def gSb (o i : Cm) : Cg := fun w ρ h => match o ρ h with
  | none => none
  | some (x, h1) => match i ρ h1 with
    | some (.d y, h2) => match putAt h2 x y w with
      | some h3 => some (ρ, h3)
      | none => none
    | _ => none
def sAsg (g : Cg) (e : Cm) : Cs := fun ρ h => match e ρ h with
  | none => none
  | some (w, h1) => match g w ρ h1 with
    | none => none
    | some (ρ', h2) => some (.nx ρ', h2)
/-- a, b = x, y: all values, then all stores from the left -/
def sPar (gs : List Vl → Env' → Hm → Option (Env' × Hm)) (as : Cms) : Cs := fun ρ h => match as ρ h with
  | none => none
  | some (ws, h1) => match gs ws ρ h1 with
    | none => none
    | some (ρ', h2) => some (.nx ρ', h2)
/-- += and -= of ints -/
def augD : BO → PyData → PyData → Option PyData
  | .add, .int i, .int j => some (.int (i + j))
  | .sub, .int i, .int j => some (.int (i - j))
  | _, _, _ => none
def sAug (i : Nat) (o : BO) (e : Cm) : Cs := fun ρ h => match ρ[i]? with
  | some (some (.d x)) => match e ρ h with
    | some (.d y, h1) => match augD o x y with
      | some z => some (.nx (ρ.set i (some (.d z))), h1)
      | none => none
    | _ => none
  | _ => none
def sAugS (a b : Cm) (o : BO) (e : Cm) : Cs := fun ρ h => match a ρ h with
  | none => none
  | some (x, h1) => match b ρ h1 with
    | some (.d y, h2) => match ixV h2 x y with
      | some (.d u) => match e ρ h2 with
        | some (.d v, h4) => match augD o u v with
          | some z => match putAt h4 x y (.d z) with
            | some h5 => some (.nx ρ, h5)
            | none => none
          | none => none
        | _ => none
      | _ => none
    | _ => none
def sIf (c : Ct) (a b : Cs) : Cs := fun ρ h => match c ρ h with
  | none => none
  | some (true, h1) => a ρ h1
  | some (false, h1) => b ρ h1
def iterW (c : Ct) (b : Cs) : Nat → Cs
  | 0, _, _ => none
  | n + 1, ρ, h => match c ρ h with
    | none => none
    | some (false, h1) => some (.nx ρ, h1)
    | some (true, h1) => match b ρ h1 with
      | none => none
      | some (.nx ρ', h2) => iterW c b n ρ' h2
      | some (.ct ρ', h2) => iterW c b n ρ' h2
      | some (.bk ρ', h2) => some (.nx ρ', h2)
      | some (.rt w, h2) => some (.rt w, h2)
def lots : Nat := 18446744073709551616
def sWhl (c : Ct) (b : Cs) : Cs := iterW c b lots
def iterF (g : Cg) (b : Cs) : List Vl → Cs
  | [], ρ, h => some (.nx ρ, h)
  | x :: xs, ρ, h => match g x ρ h with
    | none => none
    | some (ρ1, h1) => match b ρ1 h1 with
      | none => none
      | some (.nx ρ', h2) => iterF g b xs ρ' h2
      | some (.ct ρ', h2) => iterF g b xs ρ' h2
      | some (.bk ρ', h2) => some (.nx ρ', h2)
      | some (.rt w, h2) => some (.rt w, h2)
def sFor (g : Cg) (it : Cms) (b : Cs) : Cs := fun ρ h => match it ρ h with
  | none => none
  | some (xs, h1) => iterF g b xs ρ h1
def sRet (e : Cm) : Cs := fun ρ h => match e ρ h with
  | none => none
  | some (w, h1) => some (.rt w, h1)
def sRetN : Cs := fun _ h => some (.rt (.d .none), h)
def sBrk : Cs := fun ρ h => some (.bk ρ, h)
def sCnt : Cs := fun ρ h => some (.ct ρ, h)
def sDrop (e : Cm) : Cs := fun ρ h => match e ρ h with
  | none => none
  | some (_, h1) => some (.nx ρ, h1)
def isLst (h : Hm) (n : Nat) : Bool := match h[n]? with
  | some (.lst _) => true
  | _ => false
def sApp (a e : Cm) : Cs := fun ρ h => match a ρ h with
  | some (.r n, h1) => if isLst h1 n then match e ρ h1 with
    | none => none
    | some (w, h2) => match h2[n]? with
      | some (.lst xs) => if okLen (xs.length + 1) then some (.nx ρ, h2.set n (.lst (xs ++ [w]))) else none
      | _ => none
    else none
  | _ => none
def sExt (a e : Cm) : Cs := fun ρ h => match a ρ h with
  | some (.r n, h1) => if isLst h1 n then match e ρ h1 with
    | none => none
    | some (w, h2) => match h2[n]?, cur h2 w with
      | some (.lst xs), some (.list ds) => if okLen (xs.length + ds.length) then some (.nx ρ, h2.set n (.lst (xs ++ ds.map .d))) else none
      | _, _ => none
    else none
  | _ => none
def sPop (a : Cm) : Cs := fun ρ h => match a ρ h with
  | some (.r n, h1) => match h1[n]? with
    | some (.lst xs) => match xs with
      | [] => none
      | _ :: _ => some (.nx ρ, h1.set n (.lst xs.dropLast))
    | _ => none
  | _ => none
/-- let go: a value as data, what it holds of ours gone -/
def dzs (f : Hm → Vl → Option (PyData × Hm)) : Hm → List Vl → Option (List PyData × Hm)
  | h, [] => some ([], h)
  | h, w :: ws => match f h w with
    | none => none
    | some (d, h1) => match dzs f h1 ws with
      | none => none
      | some (ds, h2) => some (d :: ds, h2)
def dz : Nat → Hm → Vl → Option (PyData × Hm)
  | 0, h, w => match w with
    | .d x => some (x, h)
    | _ => none
  | k + 1, h, w => match w with
    | .d x => some (x, h)
    | .s _ => none
    | .r n => match h[n]? with
      | some (.lst xs) => match dzs (dz k) (h.set n .gone) xs with
        | some (ds, h2) => some (.list ds, h2)
        | none => none
      | _ => none
def cFrz (a : Cm) : Cm := fun ρ h => match a ρ h with
  | none => none
  | some (w, h1) => match dz 8 h1 w with
    | some (d, h2) => some (.d d, h2)
    | none => none
/-- from here on the object in slot i is data -/
def sFrz (i : Nat) : Cs := fun ρ h => match ρ[i]? with
  | some (some w) => match dz 8 h w with
    | some (d, h1) => some (.nx (ρ.set i (some (.d d))), h1)
    | none => none
  | _ => none

/-! ### what is walked -/
def rngL (lo : Int) (n : Nat) : List Vl := (upTo lo n).map .d
def iR1 (a : Cm) : Cms := fun ρ h => match a ρ h with
  | some (.d (.int j), h1) => if sixty2 j then some (rngL 0 j.toNat, h1) else none
  | _ => none
def iR2 (a b : Cm) : Cms := fun ρ h => match a ρ h with
  | some (.d (.int i), h1) => match b ρ h1 with
    | some (.d (.int j), h2) => if sixty2 i && sixty2 j then some (rngL i (j - i).toNat, h2) else none
    | _ => none
  | _ => none
def stepTo (lo c : Int) : Nat → List PyData
  | 0 => []
  | n + 1 => .int lo :: stepTo (lo + c) c n
def iR3 (a b c : Cm) : Cms := fun ρ h => match a ρ h with
  | some (.d (.int i), h1) => match b ρ h1 with
    | some (.d (.int j), h2) => match c ρ h2 with
      | some (.d (.int k), h3) => if !(k == 0) && (Nat.blt k.natAbs 1073741824 && Builtin.Range.small i j k) then some ((stepTo i k (Builtin.Range.rangeSize i j k).toNat).map .d, h3) else none
      | _ => none
    | _ => none
  | _ => none
def iSq (a : Cm) : Cms := fun ρ h => match a ρ h with
  | some (.d (.list xs), h1) => some (xs.map .d, h1)
  | some (.d (.tuple xs), h1) => some (xs.map .d, h1)
  | _ => none
def zip2D : List PyData → List PyData → List PyData
  | x :: xs, y :: ys => .tuple [x, y] :: zip2D xs ys
  | _, _ => []
def zip3D : List PyData → List PyData → List PyData → List PyData
  | x :: xs, y :: ys, z :: zs => .tuple [x, y, z] :: zip3D xs ys zs
  | _, _, _ => []
/-- two lists, two tuples -/
def zipD : PyData → PyData → Option (List PyData)
  | .list xs, .list ys => some (zip2D xs ys)
  | .tuple xs, .tuple ys => some (zip2D xs ys)
  | _, _ => none
def iZ2 (a b : Cm) : Cms := fun ρ h => match a ρ h with
  | some (.d x, h1) => match b ρ h1 with
    | some (.d y, h2) => match zipD x y with
      | some zs => some (zs.map .d, h2)
      | _ => none
    | _ => none
  | _ => none
def iZ3 (a b c : Cm) : Cms := fun ρ h => match a ρ h with
  | some (.d x, h1) => match b ρ h1 with
    | some (.d y, h2) => match c ρ h2 with
      | some (.d z, h3) => match seqD x, seqD y, seqD z with
        | some xs, some ys, some zs => some ((zip3D xs ys zs).map .d, h3)
        | _, _, _ => none
      | _ => none
    | _ => none
  | _ => none

/-! ### comprehensions -/
def wipeE (ρ : Env') : List Nat → Env'
  | [] => ρ
  | v :: vs => (wipeE ρ vs).set v none
def compL (g : Cg) (c : Ct) (e : Cm) (ρ : Env') : List Vl → Hm → Option (List Vl × Hm)
  | [], h => some ([], h)
  | x :: xs, h => match g x ρ h with
    | none => none
    | some (ρ1, h1) => match c ρ1 h1 with
      | none => none
      | some (false, h2) => compL g c e ρ xs h2
      | some (true, h2) => match e ρ1 h2 with
        | none => none
        | some (y, h3) => match compL g c e ρ xs h3 with
          | none => none
          | some (ys, h4) => some (y :: ys, h4)
def cYes : Ct := fun _ h => some (true, h)
def cComp (own : List Nat) (e : Cm) (g : Cg) (it : Cms) (c : Ct) : Cms := fun ρ h => match it ρ h with
  | none => none
  | some (xs, h1) => if okLen xs.length then compL g c e (wipeE ρ own) xs h1 else none

/-! ### built-in functions -/
/-- all can be compared with one another -/
def alikeOk (ds : List PyData) : Bool := shp64 (.list ds) && ((ds.all fun x => ds.all fun y => PySem.W.alike x y) && ds.all fun x => match x with | .none => false | _ => true)
def sortOk (ds : List PyData) : Bool := okLen ds.length && (shp64 (.list ds) && ((ds.all fun x => ds.all fun y => PySem.W.alike x y) && ((ds.all fun x => match x with | .tuple (_ :: _) => true | _ => false) || ds.all fun x => match x with | .none => false | .tuple _ => false | _ => true)))
def isOf (p : PR) : PyData → Bool
  | .int _ => match p with | .isInt => true | _ => false
  | .bool _ => match p with | .isInt => true | .isBool => true | _ => false
  | .tuple _ => match p with | .isTup => true | _ => false
  | .str _ => match p with | .isStr => true | _ => false
  | .list _ => match p with | .isList => true | _ => false
  | _ => false
def countD (xs : List PyData) (d : PyData) : Nat := match xs with
  | [] => 0
  | x :: xs => (if PyData.eqv x d then 1 else 0) + countD xs d
def indexD (xs : List PyData) (d : PyData) : Option Nat := match xs with
  | [] => none
  | x :: xs => if PyData.eqv x d then some 0 else (indexD xs d).map (· + 1)
def primD : PR → List PyData → Option PyData
  | .len, [.list xs] => some (.int xs.length)
  | .len, [.tuple xs] => some (.int xs.length)
  | .abs, [.int i] => some (.int (if i < 0 then -i else i))
  | .int, [.int i] => some (.int i)
  | .int, [.bool b] => some (.int (if b then 1 else 0))
  | .max2, [.int i, .int j] => some (.int (if j > i then j else i))
  | .min2, [.int i, .int j] => some (.int (if j < i then j else i))
  | .sum, [.list xs] => (intsD xs).map fun ns => .int ns.sum
  | .sum, [.tuple xs] => (intsD xs).map fun ns => .int ns.sum
  | .max1, [.list (x :: xs)] => if alikeOk (x :: xs) then some (PySem.W.maxD x xs) else none
  | .max1, [.tuple (x :: xs)] => if alikeOk (x :: xs) then some (PySem.W.maxD x xs) else none
  | .min1, [.list (x :: xs)] => if alikeOk (x :: xs) then some (PySem.W.minD x xs) else none
  | .min1, [.tuple (x :: xs)] => if alikeOk (x :: xs) then some (PySem.W.minD x xs) else none
  | .sorted, [.list xs] => if sortOk xs then some (.list (xs.mergeSort (PySem.W.dataLe false id))) else none
  | .tuple, [.list xs] => some (.tuple xs)
  | .tuple, [.tuple xs] => some (.tuple xs)
  | .list, [.list xs] => some (.list xs)
  | .list, [.tuple xs] => some (.list xs)
  | .all, [.list xs] => (boolsD xs).map fun bs => .bool (bs.all id)
  | .any, [.list xs] => (boolsD xs).map fun bs => .bool (bs.any id)
  | .cnt, [.list xs, d] => if shp64 (.list xs) && shp64 d then some (.int (countD xs d)) else none
  | .cnt, [.tuple xs, d] => if shp64 (.list xs) && shp64 d then some (.int (countD xs d)) else none
  | .index, [.list xs, d] => if shp64 (.list xs) && shp64 d then (indexD xs d).map fun n => .int n else none
  | .index, [.tuple xs, d] => if shp64 (.list xs) && shp64 d then (indexD xs d).map fun n => .int n else none
  | .isInt, [d] => some (.bool (isOf .isInt d))
  | .isBool, [d] => some (.bool (isOf .isBool d))
  | .isTup, [d] => some (.bool (isOf .isTup d))
  | .isStr, [d] => some (.bool (isOf .isStr d))
  | .isList, [d] => some (.bool (isOf .isList d))
  | .lrange1, [.int j] => if sixty2 j && okLen j.toNat then some (.list (upTo 0 j.toNat)) else none
  | .lrange2, [.int i, .int j] => if sixty2 i && (sixty2 j && okLen (j - i).toNat) then some (.list (upTo i (j - i).toNat)) else none
  | .trange1, [.int j] => if sixty2 j && okLen j.toNat then some (.tuple (upTo 0 j.toNat)) else none
  | .trange2, [.int i, .int j] => if sixty2 i && (sixty2 j && okLen (j - i).toNat) then some (.tuple (upTo i (j - i).toNat)) else none
  | _, _ => none
def curs (h : Hm) : List Vl → Option (List PyData)
  | [] => some []
  | w :: ws => match curS h w, curs h ws with
    | some d, some ds => some (d :: ds)
    | _, _ => none
def cPrim (p : PR) (as : Cms) : Cm := fun ρ h => match as ρ h with
  | none => none
  | some (xs, h1) => match curs h1 xs with
    | none => none
    | some ds => match primD p ds with
      | some d => some (.d d, h1)
      | none => none

/-! ### the syntax -/
mutual
inductive E where
  | v (i : Nat) | c (x : PyData) | bin (o : BO) (a b : E) | neg (a : E) | cmp (o : CO) (a b : E) | ch2 (o p : CO) (a b c : E)
  | and_ (a : E) (as : Es) | or_ (a : E) (as : Es) | not_ (a : E) | ife (c a b : E) | tup (as : Es) | fl (f : F) | fm (f : F)
  | ix (a b : E) | sl (a lo hi : E) | rev (a : E) | nop | call (f : Nat) (as : Es) | callP (f : Nat) (as : Es) | prim (p : PR) (as : Es) | mcnt (a b : E) | midx (a b : E)
  | dic (ks : List Key) (as : Es) | dit | frz (a : E)
inductive Es where
  | nil | cons (a : E) (as : Es)
inductive F where
  | disp (as : Es) | comp (own : List Nat) (e : E) (t : T) (i : I) (c : E) | rep (f : F) (e : E) | lof (a : E) | ofE (a : E)
inductive T where
  | nm (i : Nat) | tp (ts : Ts) | sb (o i : E)
inductive Ts where
  | nil | cons (t : T) (ts : Ts)
inductive I where
  | r1 (a : E) | r2 (a b : E) | r3 (a b c : E) | sq (a : E) | z2 (a b : E) | z3 (a b c : E)
end
mutual
inductive S where
  | asg (t : T) (e : E) | par (ts : Ts) (as : Es) | aug (i : Nat) (o : BO) (e : E) | augS (a b : E) (o : BO) (e : E) | ife (c : E) (a b : Ss) | whl (c : E) (b : Ss) | for_ (t : T) (i : I) (b : Ss)
  | ret (e : E) | retN | brk | cnt | pas | exp (e : E) | app (a e : E) | ext (a e : E) | pop (a : E) | frz (i : Nat)
inductive Ss where
  | nil | cons (s : S) (ss : Ss)
end

def partOf : E → Cm → Env' → Hm → Option (Option Int × Hm)
  | .nop, _ => cNoPart
  | _, c => cPart c
def condOf : E → Cm → Ct
  | .nop, _ => cYes
  | _, c => toB c
mutual
def ev (C : Orc) : E → Cm
  | .v i => cVar i
  | .c x => cC x
  | .bin o a b => cBin o (ev C a) (ev C b)
  | .neg a => cNeg (ev C a)
  | .cmp o a b => ofB (cCmpB o (ev C a) (ev C b))
  | .ch2 o p a b c => ofB (cCh2 o p (ev C a) (ev C b) (ev C c))
  | .and_ a as => ofB (evAnd C (toB (ev C a)) as)
  | .or_ a as => ofB (evOr C (toB (ev C a)) as)
  | .not_ a => ofB (cNot (toB (ev C a)))
  | .ife c a b => cIf (toB (ev C c)) (ev C a) (ev C b)
  | .tup as => cTup (evs C as)
  | .fl f => cFl (evF C f)
  | .fm f => cFm (evF C f)
  | .ix a b => cIx (ev C a) (ev C b)
  | .sl a lo hi => cSl (ev C a) (partOf lo (ev C lo)) (partOf hi (ev C hi))
  | .rev a => cRev (ev C a)
  | .nop => fun _ _ => none
  | .call f as => cCall C f (evs C as)
  | .callP f as => cCallP C f (evs C as)
  | .prim p as => cPrim p (evs C as)
  | .mcnt a b => cPrim .cnt (cCons (ev C a) (cCons (ev C b) cNil))
  | .midx a b => cPrim .index (cCons (ev C a) (cCons (ev C b) cNil))
  | .dic ks as => cDic ks (evs C as)
  | .dit => cDit
  | .frz a => cFrz (ev C a)
def evs (C : Orc) : Es → Cms
  | .nil => cNil
  | .cons a as => cCons (ev C a) (evs C as)
def evAnd (C : Orc) (a : Ct) : Es → Ct
  | .nil => a
  | .cons b bs => cAnd a (evAnd C (toB (ev C b)) bs)
def evOr (C : Orc) (a : Ct) : Es → Ct
  | .nil => a
  | .cons b bs => cOr a (evOr C (toB (ev C b)) bs)
def evF (C : Orc) : F → Cms
  | .disp as => cDisp (evs C as)
  | .comp own e t i c => cComp own (ev C e) (evT C t) (evI C i) (condOf c (ev C c))
  | .rep f e => cRep (evF C f) (ev C e)
  | .lof a => cListOf (ev C a)
  | .ofE a => cOfE (ev C a)
def evT (C : Orc) : T → Cg
  | .nm i => gNm i
  | .tp ts => gTp (evTs C ts)
  | .sb o i => gSb (ev C o) (ev C i)
def evTs (C : Orc) : Ts → List Vl → Env' → Hm → Option (Env' × Hm)
  | .nil => gsNil
  | .cons t ts => gsCons (evT C t) (evTs C ts)
def evI (C : Orc) : I → Cms
  | .r1 a => iR1 (ev C a)
  | .r2 a b => iR2 (ev C a) (ev C b)
  | .r3 a b c => iR3 (ev C a) (ev C b) (ev C c)
  | .sq a => iSq (ev C a)
  | .z2 a b => iZ2 (ev C a) (ev C b)
  | .z3 a b c => iZ3 (ev C a) (ev C b) (ev C c)
end
mutual
def ex (C : Orc) : S → Cs
  | .asg t e => sAsg (evT C t) (ev C e)
  | .par ts as => sPar (evTs C ts) (evs C as)
  | .aug i o e => sAug i o (ev C e)
  | .augS a b o e => sAugS (ev C a) (ev C b) o (ev C e)
  | .ife c a b => sIf (toB (ev C c)) (exs C a) (exs C b)
  | .whl c b => sWhl (toB (ev C c)) (exs C b)
  | .for_ t i b => sFor (evT C t) (evI C i) (exs C b)
  | .ret e => sRet (ev C e)
  | .retN => sRetN
  | .brk => sBrk
  | .cnt => sCnt
  | .pas => sNil
  | .exp e => sDrop (ev C e)
  | .app a e => sApp (ev C a) (ev C e)
  | .ext a e => sExt (ev C a) (ev C e)
  | .pop a => sPop (ev C a)
  | .frz i => sFrz i
def exs (C : Orc) : Ss → Cs
  | .nil => sNil
  | .cons s ss => sCons (ex C s) (exs C ss)
end

/-! ### defs -/
structure Fn where
  np : Nat
  ns : Nat
  body : Ss
def runFn (C : Orc) (f : Fn) (ws : List Vl) (h : Hm) : Option (Vl × Hm) :=
  if ws.length == f.np then match exs C f.body (ws.map some ++ List.replicate (f.ns - f.np) none) h with
    | some (.rt w, h') => some (w, h')
    | some (.nx _, h') => some (.d .none, h')
    | _ => none
  else none
def callL (P : List Fn) : Nat → Orc
  | 0 => fun _ _ _ => none
  | k + 1 => fun f ws h => match P[f]? with
    | some fn => runFn (callL P k) fn ws h
    | none => none
end MP

namespace MP
open PySem PySem.Spec L2
open PyProof.Rows hiding St
section
variable (l : Addr) (items : Array Value) (n : Nat) (dd : Option Addr) (sl : Array (Option Value)) (x : Int) (u : Tok)
theorem tuple_mul_same (c0 : (decide (x < -(2 ^ 63)) || decide (x ≥ 2 ^ 63)) = false) (c1 : (items.isEmpty || x == 1) = true) :
    Meets (Builtin.«tuple.__mul__» ⟨[.ref l, .int x u], []⟩) (fun _ R s => s.heap.get? l = some { cls := .type "tuple", dict := dd, data := .seq items n, slots := sl } ∧ R (.ok (.ret (Value.ref l))) s) :=
  .of_wp fun prog w A R s h => by
    obtain ⟨hp, g, d, tk, os⟩ := s
    obtain ⟨hl, h⟩ := h
    have f1 := AutoSeq1.idx_int
    wp_walk using AutoSeq1.wpAny_loadPart' hl
    repeat (first
      | (refine wpAny_ite_false (decide_eq_false (by rw [c0]; exact Bool.false_ne_true)) ?_; wp_walk using AutoSeq1.wpAny_loadPart' hl)
      | (refine wpAny_ite_true (decide_eq_true (by rw [c1])) ?_; wp_walk using AutoSeq1.wpAny_loadPart' hl))
    exact ⟨_, rfl, h⟩
theorem tuple_mul_zero (c0 : (decide (x < -(2 ^ 63)) || decide (x ≥ 2 ^ 63)) = false) (c1 : (items.isEmpty || x == 1) = false) (c2 : (decide (x ≤ 0) || items.isEmpty) = true) :
    Meets (Builtin.«tuple.__mul__» ⟨[.ref l, .int x u], []⟩) (fun _ R s => s.heap.get? l = some { cls := .type "tuple", dict := dd, data := .seq items n, slots := sl } ∧
      R (.ok (.ret (Value.ref s.heap.objs.size))) { s with heap := s.heap.push { cls := Value.type "tuple", data := Data.seq #[] }, toks := s.toks }) :=
  .of_wp fun prog w A R s h => by
    obtain ⟨hp, g, d, tk, os⟩ := s
    obtain ⟨hl, h⟩ := h
    have f1 := AutoSeq1.idx_int
    wp_walk using AutoSeq1.wpAny_loadPart' hl
    repeat (first
      | (refine wpAny_ite_false (decide_eq_false (by rw [c0]; exact Bool.false_ne_true)) ?_; wp_walk using AutoSeq1.wpAny_loadPart' hl)
      | (refine wpAny_ite_false (decide_eq_false (by rw [c1]; exact Bool.false_ne_true)) ?_; wp_walk using AutoSeq1.wpAny_loadPart' hl)
      | (refine wpAny_ite_true (decide_eq_true (by rw [c2])) ?_; wp_walk using AutoSeq1.wpAny_loadPart' hl))
    all_goals first
      | exact ⟨_, rfl, h⟩
      | (refine wpAny_ite_false (decide_eq_false (by rw [sizeLine_eq]; decide)) ?_; wp_walk using AutoSeq1.wpAny_loadPart' hl; exact ⟨_, rfl, h⟩)
end
def rRepG (K : PySem.W.Frag) : R2 := fun x y H Q => ∃ l k xs, x = .ref l ∧ y = .int k ∧ SqT K H l xs ∧ -(2 ^ 63) ≤ k ∧ k < 2 ^ 63 ∧ xs.length * k.toNat ≤ sizeLine ∧
  (xs = [] ∨ k = 1 → Q (.ref l) H) ∧ (xs ≠ [] → k ≠ 1 → ∀ p, H p = none → Q (.ref p) (upd H p (.tup (List.replicate k.toNat xs).flatten)))
theorem op_repG {X : Cx} : OpR X (binaryOp .Mult) (rRepG X.K) := by
  intro pins s σ H x y v u Q I rx ry h
  obtain ⟨l, k, xs, rfl, rfl, hT, h1, h2, hz, q0, q⟩ := h
  cases rx
  obtain ⟨t, rfl⟩ := ry
  obtain ⟨its, r, ⟨⟨cls, dd, data, sl⟩, ho, hc, n, hd⟩, hs⟩ := I.tuple hT
  simp only at hc hd
  subst hc hd
  have hle : its.length = xs.length := r.length.symm
  have hsz0 : its.toArray.size = xs.length := by rw [List.size_toArray, hle]
  have he : its.toArray.isEmpty = xs.isEmpty := by
    cases r <;> rfl
  have c0 : (decide (k < -(2 ^ 63)) || decide (k ≥ 2 ^ 63)) = false := by
    rw [decide_eq_false (by omega), decide_eq_false (by omega)] <;> rfl
  have road : ∀ {Q' : Value → Shared → Prop}, wpAny (model X.prog X.w) X.A (call (.builtin "tuple.__mul__") [.ref l, .int k t]) Q' X.xe s → wpAny (model X.prog X.w) X.A (binaryOp .Mult (.ref l) (.int k t)) Q' X.xe s := fun {Q'} hq =>
    wpAny_binaryOp_repeat_ref (T := "tuple") (U := "int") (by decide) ⟨_, ho, rfl⟩ (fun s' => typeIs_int s' k t) noFill_tuple_mul F.fills_int_mul F.slot_int_rmul repeat_tuple F.slot_int_index.lookup
      (call_meets F.slot_int_rmul (typeIs_int s k t) F.entry_int_rmul (F.args_int_rmul_2 _ _) (int_rmul_tuple k t l its.toArray n dd sl) ⟨ho, rfl, ⟨_, ho, rfl⟩, hq⟩)
  refine road ?_
  by_cases hc1 : xs = [] ∨ k = 1
  · have c1 : (its.toArray.isEmpty || k == 1) = true := by
      rcases hc1 with e | e
      · rw [he, e]; rfl
      · rw [e]; simp
    exact call_meets F.slot_tuple_mul ⟨_, ho, rfl⟩ F.entry_tuple_mul (F.args_tuple_mul_2 _ _) (tuple_mul_same l its.toArray n dd sl k t c0 c1) ⟨ho, .ref l, H, I, rfl, q0 hc1⟩
  · have hne : xs ≠ [] := fun e => hc1 (.inl e)
    have hk1 : k ≠ 1 := fun e => hc1 (.inr e)
    have hi : its.toArray.isEmpty = false := by
      rw [he]
      cases xs with
      | nil => exact absurd rfl hne
      | cons a b => rfl
    have c1 : (its.toArray.isEmpty || k == 1) = false := by
      rw [hi, Bool.false_or]
      exact beq_eq_false_iff_ne.mpr hk1
    have fin : ∀ {o : Obj} {its' : List Value}, o = { cls := Value.type "tuple", data := Data.seq its'.toArray } → Vals (List.replicate k.toNat xs).flatten its' → its'.length ≤ sizeLine →
        EP X pins σ Q (Value.ref s.heap.objs.size) { s with heap := s.heap.push o, toks := s.toks } := fun {o its'} e rv hl => by
      subst e
      refine ⟨.ref s.heap.objs.size, _, I.laid (t' := s.toks) (o := .tup (List.replicate k.toNat xs).flatten) (fun b ob q => Heap.get?_push_of_some _ q) (Nat.le_refl _) ?_, rfl, q hne hk1 _ (I.hok.fresh (Nat.le_refl _))⟩
      exact ⟨by rw [rv.length]; exact hl, its', rv, IsTup.new _ _⟩
    by_cases hk0 : k ≤ 0
    · have c2 : (decide (k ≤ 0) || its.toArray.isEmpty) = true := by rw [decide_eq_true hk0]; rfl
      have e0 : (List.replicate k.toNat xs).flatten = [] := by
        have : k.toNat = 0 := by omega
        rw [this]; rfl
      exact call_meets F.slot_tuple_mul ⟨_, ho, rfl⟩ F.entry_tuple_mul (F.args_tuple_mul_2 _ _) (tuple_mul_zero l its.toArray n dd sl k t c0 c1 c2) ⟨ho, fin (its' := []) rfl (by rw [e0]; exact .nil) (Nat.zero_le _)⟩
    · have c2 : (decide (k ≤ 0) || its.toArray.isEmpty) = false := by
        rw [hi, Bool.or_false]
        exact decide_eq_false (by omega)
      have hm : ((its.toArray.size : Nat) : Int) * k = (((xs.length * k.toNat : Nat)) : Int) := by
        rw [hsz0, Int.natCast_mul, Int.toNat_of_nonneg (by omega)]
      have hle2 : ((xs.length * k.toNat : Nat) : Int) ≤ 16777216 := by
        have := hz
        rw [sizeLine_eq] at this
        omega
      have flen : (List.replicate k.toNat its).flatten.length ≤ sizeLine := by
        rw [PyProof.Rows.lm_len_rep_flat, hle, Nat.mul_comm]
        exact hz
      have c4 : Builtin.Tuple.tupleTooMany (((its.toArray.size : Nat) : Int) * k) = false := by
        unfold Builtin.Tuple.tupleTooMany
        rw [hm, sizeLine_eq]
        exact decide_eq_false (by omega)
      refine call_meets F.slot_tuple_mul ⟨_, ho, rfl⟩ F.entry_tuple_mul (F.args_tuple_mul_2 _ _) (tuple_mulW l its.toArray n dd sl k t c0 c1 c2 (by rw [hm]; omega) c4 (by rw [size_rep, List.size_toArray]; exact flen)) ⟨ho, ?_⟩
      rw [size_rep]
      exact fin rfl (r.rep k.toNat) flen
end MP

namespace MP
open PySem PySem.Spec L2
open PyProof.Rows hiding St

/-! ### shapes -/
mutual
theorem shp_ok : ∀ (n : Nat) (d : PyData), shp n d = true → d.canLay0 = true ∧ d.depth ≤ n
  | 0, _, h => by cases h
  | n + 1, .none, _ => ⟨by simp [PyData.canLay0], by simp [PyData.depth]⟩
  | n + 1, .bool _, _ => ⟨by simp [PyData.canLay0], by simp [PyData.depth]⟩
  | n + 1, .int _, _ => ⟨by simp [PyData.canLay0], by simp [PyData.depth]⟩
  | n + 1, .str x, h => ⟨h, by simp [PyData.depth]⟩
  | n + 1, .list xs, h => by
    obtain ⟨h1, h2⟩ := shps_ok n xs h
    exact ⟨by simpa [PyData.canLay0] using h1, by simp only [PyData.depth]; omega⟩
  | n + 1, .tuple xs, h => by
    obtain ⟨h1, h2⟩ := shps_ok n xs h
    exact ⟨by simpa [PyData.canLay0] using h1, by simp only [PyData.depth]; omega⟩
  | n + 1, .dict _, h => by cases h
theorem shps_ok : ∀ (n : Nat) (ds : List PyData), ds.all (shp n) = true → PyData.canLayAll0 ds = true ∧ PyData.depthAll ds ≤ n
  | n, [], _ => ⟨by simp [PyData.canLayAll0], by simp [PyData.depthAll]⟩
  | n, d :: ds, h => by
    rw [List.all_cons, Bool.and_eq_true] at h
    obtain ⟨a1, a2⟩ := shp_ok n d h.1
    obtain ⟨b1, b2⟩ := shps_ok n ds h.2
    refine ⟨by simp only [PyData.canLayAll0, a1, b1, Bool.and_self], ?_⟩
    simp only [PyData.depthAll]
    omega
end
theorem shp64_ok {d : PyData} (h : shp64 d = true) : SeqAt.shaped d = true := by
  obtain ⟨h1, h2⟩ := shp_ok 64 d h
  show (d.canLay0 && decide (d.depth ≤ 64)) = true
  rw [h1, decide_eq_true (by omega)] <;> rfl

/-! ### < -/
def eAt (xs ys : List PyData) (j : Nat) : Bool := match xs[j]?, ys[j]? with
  | some x, some y => PyData.eqv x y
  | _, _ => true
def rAt (xs ys : List PyData) (j : Nat) : Bool := match xs[j]?, ys[j]? with
  | some x, some y => (ltD x y).getD false
  | _, _ => true
theorem firstLt_shift (e r : Nat → Bool) (fin : Bool) : ∀ l : List Nat, SeqAt.firstLt e r fin (l.map (· + 1)) = SeqAt.firstLt (fun j => e (j + 1)) (fun j => r (j + 1)) fin l
  | [] => rfl
  | j :: t => by
    show (if e (j + 1) = true then SeqAt.firstLt e r fin (t.map (· + 1)) else r (j + 1)) = (if e (j + 1) = true then _ else _)
    rw [firstLt_shift e r fin t]
theorem ltDs_ok : ∀ (xs ys : List PyData) (k : Bool), ltDs xs ys = some k → SeqAt.firstLt (eAt xs ys) (rAt xs ys) (decide (xs.length < ys.length)) (List.range (min xs.length ys.length)) = k ∧
    ∀ (j : Nat) (x y : PyData), xs[j]? = some x → ys[j]? = some y → eAt xs ys j = false → ∃ k', ltD x y = some k'
  | [], [], k, h => by
    simp only [ltDs, Option.some.injEq] at h
    subst h
    exact ⟨rfl, fun j x y h => by simp at h⟩
  | [], y :: ys, k, h => by
    simp only [ltDs, Option.some.injEq] at h
    subst h
    refine ⟨by simp [SeqAt.firstLt], fun j x y h => by simp at h⟩
  | x :: xs, [], k, h => by
    simp only [ltDs, Option.some.injEq] at h
    subst h
    refine ⟨by simp [SeqAt.firstLt], fun j x y _ h => by simp at h⟩
  | x :: xs, y :: ys, k, h => by
    simp only [ltDs] at h
    cases q : ltDs xs ys with
    | none => rw [q] at h; cases h
    | some r =>
      rw [q] at h
      obtain ⟨i1, i2⟩ := ltDs_ok xs ys r q
      have hmin : min (x :: xs).length (y :: ys).length = min xs.length ys.length + 1 := by
        simp only [List.length_cons]; omega
      have hlen : decide ((x :: xs).length < (y :: ys).length) = decide (xs.length < ys.length) := by simp
      rw [hmin, hlen, List.range_succ_eq_map]
      have e0 : eAt (x :: xs) (y :: ys) 0 = PyData.eqv x y := rfl
      have r0 : rAt (x :: xs) (y :: ys) 0 = (ltD x y).getD false := rfl
      have eS : (fun j => eAt (x :: xs) (y :: ys) (j + 1)) = eAt xs ys := by
        funext j; unfold eAt; simp only [List.getElem?_cons_succ]
      have rS : (fun j => rAt (x :: xs) (y :: ys) (j + 1)) = rAt xs ys := by
        funext j; unfold rAt; simp only [List.getElem?_cons_succ]
      have hs : (List.range (min xs.length ys.length)).map Nat.succ = (List.range (min xs.length ys.length)).map (· + 1) := rfl
      by_cases c : PyData.eqv x y = true
      · simp only [c, if_true, Option.some.injEq] at h
        subst h
        refine ⟨?_, fun j a b h1 h2 h3 => ?_⟩
        · rw [SeqAt.firstLt_yes (by rw [e0]; exact c), hs, firstLt_shift, eS, rS]
          exact i1
        · cases j with
          | zero => rw [e0, c] at h3; cases h3
          | succ j =>
            rw [List.getElem?_cons_succ] at h1 h2
            refine i2 j a b h1 h2 ?_
            rw [← eS]; exact h3
      · have c' : PyData.eqv x y = false := by simpa using c
        simp only [c', Bool.false_eq_true, if_false] at h
        refine ⟨?_, fun j a b h1 h2 h3 => ?_⟩
        · rw [SeqAt.firstLt_no (by rw [e0]; exact c'), r0, h]; rfl
        · cases j with
          | zero =>
            simp only [List.getElem?_cons_zero, Option.some.injEq] at h1 h2
            subst h1 h2
            exact ⟨k, h⟩
          | succ j =>
            rw [List.getElem?_cons_succ] at h1 h2
            refine i2 j a b h1 h2 ?_
            rw [← eS]; exact h3
theorem readsAll_at {h : Heap} : ∀ {xs : List PyData} {vs : List Value} {as : List Addr}, ReadsAll h vs xs as → PyData.canLayAll0 xs = true → ∀ (j : Nat) (v : Value), vs[j]? = some v →
    ∃ d bs, xs[j]? = some d ∧ Reads h v d bs ∧ d.canLay0 = true ∧ d.depth ≤ PyData.depthAll xs
  | [], vs, as, r, _, j, v, e => by
    have := SeqAt.ReadsAll.length _ _ _ r
    simp at this
    subst this
    simp at e
  | x :: xs, vs, as, r, hc, j, v, e => by
    cases r with
    | cons r1 r2 =>
      simp only [PyData.canLayAll0, Bool.and_eq_true] at hc
      cases j with
      | zero =>
        simp only [List.getElem?_cons_zero, Option.some.injEq] at e
        subst e
        exact ⟨x, _, rfl, r1, hc.1, by simp only [PyData.depthAll]; exact Nat.le_max_left _ _⟩
      | succ j =>
        rw [List.getElem?_cons_succ] at e
        obtain ⟨d, bs, a1, a2, a3, a4⟩ := readsAll_at r2 hc.2 j v e
        exact ⟨d, bs, by rw [List.getElem?_cons_succ]; exact a1, a2, a3, by simp only [PyData.depthAll]; exact Nat.le_trans a4 (Nat.le_max_right _ _)⟩
theorem ltD_depth : ∀ (n : Nat) (da db : PyData) (A : Around) (s : Shared) (a b : Value) (as bs : List Addr) (k : Bool), da.depth ≤ n → Reads s.heap a da as → Reads s.heap b db bs → da.canLay0 = true → db.canLay0 = true →
    A.units + n + 1 < cLine → ltD da db = some k → SeqAt.RcLt A s a b k := by
  intro n
  induction n with
  | zero =>
    intro da db A s a b as bs k hn ra rb ca cb hu h
    cases da with
    | int i =>
      cases db with
      | int j =>
        simp only [ltD, Option.some.injEq] at h
        subst h
        cases ra
        cases rb
        exact fun prog w E Q q => lt_int q
      | _ => simp [ltD] at h
    | tuple xs => simp [PyData.depth] at hn
    | list xs => simp [PyData.depth] at hn
    | _ => cases db <;> simp [ltD] at h
  | succ n ih =>
    intro da db A s a b as bs k hn ra rb ca cb hu h
    have step : ∀ {xs ys : List PyData} {vs ws : Array Value} {as' bs' : List Addr}, ReadsAll s.heap vs.toList xs as' → ReadsAll s.heap ws.toList ys bs' → PyData.canLayAll0 xs = true → PyData.canLayAll0 ys = true → PyData.depthAll xs ≤ n → ltDs xs ys = some k →
        (∀ j (h1 : j < vs.size) (h2 : j < ws.size), SeqAt.EqAt A.in1 s vs[j] ws[j] (eAt xs ys j)) ∧ (∀ j (h1 : j < vs.size) (h2 : j < ws.size), eAt xs ys j = false → SeqAt.RcLt A.in1 s vs[j] ws[j] (rAt xs ys j)) ∧
        SeqAt.firstLt (eAt xs ys) (rAt xs ys) (decide (vs.size < ws.size)) (List.range (min vs.size ws.size)) = k := by
      intro xs ys vs ws as' bs' r1 r2 c1 c2 hd hk
      obtain ⟨k1, k2⟩ := ltDs_ok xs ys k hk
      have l1 : vs.size = xs.length := by have := SeqAt.ReadsAll.length _ _ _ r1; simpa using this
      have l2 : ws.size = ys.length := by have := SeqAt.ReadsAll.length _ _ _ r2; simpa using this
      refine ⟨fun j h1 h2 => ?_, fun j h1 h2 he => ?_, by rw [l1, l2]; exact k1⟩
      · obtain ⟨x, b1, e1, q1, d1, n1⟩ := readsAll_at r1 c1 j vs[j] (by simp [h1])
        obtain ⟨y, b2, e2, q2, d2, n2⟩ := readsAll_at r2 c2 j ws[j] (by simp [h2])
        have : eAt xs ys j = PyData.eqv x y := by unfold eAt; rw [e1, e2]
        rw [this]
        refine SeqAt.eqAt_reads x y A.in1 s _ _ _ _ q1 q2 d1 d2 ?_
        show A.units + 1 + min x.depth y.depth < cLine
        have := Nat.min_le_left x.depth y.depth
        omega
      · obtain ⟨x, b1, e1, q1, d1, n1⟩ := readsAll_at r1 c1 j vs[j] (by simp [h1])
        obtain ⟨y, b2, e2, q2, d2, n2⟩ := readsAll_at r2 c2 j ws[j] (by simp [h2])
        obtain ⟨k', hk'⟩ := k2 j x y e1 e2 he
        have : rAt xs ys j = k' := by unfold rAt; rw [e1, e2]; simp [hk']
        rw [this]
        exact ih x y A.in1 s _ _ _ _ k' (by omega) q1 q2 d1 d2 (by show A.units + 1 + n + 1 < cLine; omega) hk'
    cases da with
    | int i =>
      cases db with
      | int j =>
        simp only [ltD, Option.some.injEq] at h
        subst h
        cases ra
        cases rb
        exact fun prog w E Q q => lt_int q
      | _ => simp [ltD] at h
    | tuple xs =>
      cases db with
      | tuple ys =>
        simp only [ltD] at h
        simp only [PyData.canLay0] at ca cb
        simp only [PyData.depth] at hn
        cases ra with
        | tuple h1 h2 h3 h4 =>
          cases rb with
          | tuple g1 g2 g3 g4 =>
            obtain ⟨s1, s2, s3⟩ := step h4 g4 ca cb (by omega) h
            rw [← s3]
            exact SeqAt.RcLt.tuples ⟨_, h1, h2, _, h3⟩ ⟨_, g1, g2, _, g3⟩ (by omega) s1 s2
      | _ => simp [ltD] at h
    | list xs =>
      cases db with
      | list ys =>
        simp only [ltD] at h
        simp only [PyData.canLay0] at ca cb
        simp only [PyData.depth] at hn
        cases ra with
        | list h1 h2 h3 h4 =>
          cases rb with
          | list g1 g2 g3 g4 =>
            obtain ⟨s1, s2, s3⟩ := step h4 g4 ca cb (by omega) h
            rw [← s3]
            exact SeqAt.RcLt.lists ⟨_, h1, h2, _, h3⟩ ⟨_, g1, g2, _, g3⟩ (by omega) s1 s2
      | _ => simp [ltD] at h
    | _ => cases db <;> simp [ltD] at h
def rLtD (K : PySem.W.Frag) : R2 := fun x y H Q => ∃ d e k, Dp K H x d ∧ Dp K H y e ∧ ltS d e = some k ∧ Q (.bl k) H
theorem ltS_ok {a b : PyData} {k : Bool} (h : ltS a b = some k) : shp64 a = true ∧ shp64 b = true ∧ ltD a b = some k := by
  unfold ltS at h
  split at h
  · rename_i c
    rw [Bool.and_eq_true] at c
    exact ⟨c.1, c.2, h⟩
  · cases h
theorem op_ltD {X : Cx} (hu : X.A.units + 66 < cLine) : OpR X (compareOp .Lt) (rLtD X.K) := by
  intro pins s σ H x y v u Q I rx ry h
  obtain ⟨d, e, k, hd, he, hk, q⟩ := h
  obtain ⟨s1, s2, hk⟩ := ltS_ok hk
  obtain ⟨as, r1⟩ := Dp.reads I d x v hd rx
  obtain ⟨bs, r2⟩ := Dp.reads I e y u he ry
  obtain ⟨c1, n1⟩ := shp_ok 64 d s1
  obtain ⟨c2, n2⟩ := shp_ok 64 e s2
  exact ltD_depth 64 d e X.A s v u as bs k (by omega) r1 r2 c1 c2 (by omega) hk X.prog X.w X.xe (EP X pins σ Q) ⟨.bl k, H, I, rfl, q⟩
end MP

namespace MP
open PySem PySem.Spec L2
open PyProof.Rows hiding St

theorem okLen_le {n : Nat} (h : okLen n = true) : n ≤ sizeLine := by
  have := Nat.le_of_ble_eq_true h
  rw [sizeLine_eq]
  exact this

/-! ### data now: a list of ours too -/
inductive CurR (K : PySem.W.Frag) (H : Hp) (ow : Addr → Prop) : PyData → V → Prop
  | d {x : PyData} {v : V} : DR K H ow x v → CurR K H ow x v
  | l {a : Addr} {vs : List V} {ds : List PyData} : H a = some (.lst vs) → DRs K H ow ds vs → CurR K H ow (.list ds) (.ref a)
section
variable {K : PySem.W.Frag} {H : Hp} {ow : Addr → Prop} {v : V}
theorem CurR.list {ds : List PyData} (h : CurR K H ow (.list ds) v) : ∃ a vs, v = .ref a ∧ H a = some (.lst vs) ∧ DRs K H ow ds vs := by
  cases h with
  | d h => cases h with
    | lst h t => exact ⟨_, _, rfl, h.1, t⟩
  | l h t => exact ⟨_, _, rfl, h, t⟩
theorem CurR.tuple {ds : List PyData} (h : CurR K H ow (.tuple ds) v) : ∃ a vs, v = .ref a ∧ TR H ow a vs ∧ DRs K H ow ds vs := by
  cases h with
  | d h => cases h with
    | tup h t => exact ⟨_, _, rfl, h, t⟩
theorem CurR.int {i : Int} (h : CurR K H ow (.int i) v) : v = .int i := by
  cases h with
  | d h => cases h; rfl
theorem CurR.bool {i : Bool} (h : CurR K H ow (.bool i) v) : v = .bl i := by
  cases h with
  | d h => cases h; rfl
theorem CurR.none (h : CurR K H ow .none v) : v = .non := by
  cases h with
  | d h => cases h; rfl
theorem CurR.str {x : Str} (h : CurR K H ow (.str x) v) : v = .str x := by
  cases h with
  | d h => cases h; rfl
theorem CurR.dp {d : PyData} (h : CurR K H ow d v) : Dp K H v d := by
  cases h with
  | d h => exact h.dp
  | l h t => exact .lst (.inl (.inl h)) t.dp
theorem CurR.ne_none {d : PyData} (h : CurR K H ow d v) (e : d ≠ .none) : v ≠ .non := by
  rintro rfl
  cases h with
  | d h => cases h; exact e rfl
end
theorem cur_ok {K : PySem.W.Frag} {H : Hp} {g : G} {w : Vl} {v : V} {d : PyData} (R : HR K H g) (r : VR K H g w v) (e : cur g.h w = some d) : CurR K H g.own d v := by
  cases r with
  | d h => cases e; exact .d h
  | s h => cases e
  | @r n a h =>
    unfold cur at e
    cases q : g.h[n]? with
    | none => simp only [q] at e; cases e
    | some o =>
      simp only [q] at e
      cases o with
      | lst xs =>
        simp only at e
        obtain ⟨ds, e1, e2⟩ := Option.map_eq_some_iff.mp e
        subst e2
        obtain ⟨vs, hv, rv⟩ := R.obj n _ a q h
        exact .l hv (rv.toD e1)
      | _ => cases e

/-- what may come of an operation that leaves ours as it is -/
def Post (K : PySem.W.Frag) (H : Hp) (g : G) (d : PyData) (Q : VK) : Prop := ∀ v H', Ext g H g H' → HR K H' g → DR K H' g.own d v → Q v H'
section
variable {K : PySem.W.Frag} {H : Hp} {g : G} {Q : VK}
theorem Post.here {d : PyData} {v : V} (q : Post K H g d Q) (R : HR K H g) (h : DR K H g.own d v) : Q v H := q v H .refl R h
theorem Post.newT {ds : List PyData} {vs : List V} (q : Post K H g (.tuple ds) Q) (R : HR K H g) (h : DRs K H g.own ds vs) (p : Addr) (hp : H p = none) : Q (.ref p) (upd H p (.tup vs)) := by
  have e := Ext.laid (g := g) p (.tup vs) hp
  refine q _ _ e (R.laid p _ hp) (.tup ⟨upd_same, R.new_own hp⟩ (h.mono e.stays))
theorem Post.newL {ds : List PyData} {vs : List V} (q : Post K H g (.list ds) Q) (R : HR K H g) (h : DRs K H g.own ds vs) (p : Addr) (hp : H p = none) : Q (.ref p) (upd H p (.lst vs)) := by
  have e := Ext.laid (g := g) p (.lst vs) hp
  refine q _ _ e (R.laid p _ hp) (.lst ⟨upd_same, R.new_own hp⟩ (h.mono e.stays))
end
theorem DRs.rep {K : PySem.W.Frag} {H : Hp} {ow : Addr → Prop} {xs : List PyData} {vs : List V} (h : DRs K H ow xs vs) : ∀ k : Nat, DRs K H ow (List.replicate k xs).flatten (List.replicate k vs).flatten
  | 0 => .nil
  | k + 1 => by
    rw [List.replicate_succ, List.flatten_cons, List.replicate_succ, List.flatten_cons]
    exact h.append (DRs.rep h k)

/-! ### the operators -/
def BO.py : BO → Operator
  | .add => .Add | .sub => .Sub | .mul => .Mult | .fdiv => .FloorDiv | .mod => .Mod | .pow => .Pow | .shl => .LShift | .shr => .RShift | .band => .BitAnd
def BinS (K : PySem.W.Frag) (o : BO) : R2 := fun x y H Q => ∃ g dx dy d, HR K H g ∧ CurR K H g.own dx x ∧ CurR K H g.own dy y ∧ binD o dx dy = some d ∧ Post K H g d Q
theorem mulOk_ok {i j : Int} (h : mulOk i j = true) : IntMulOk i j := by
  unfold mulOk at h
  rw [Bool.or_eq_true, Bool.or_eq_true] at h
  rcases h with h | h | h
  · have := Nat.le_of_ble_eq_true h
    exact .of_left (intBits_le_64 (by omega) (by omega))
  · have := Nat.le_of_ble_eq_true h
    exact .of_right (intBits_le_64 (by omega) (by omega))
  · have := Nat.le_of_ble_eq_true h
    exact CMulW.ok (show i.natAbs.log2 + j.natAbs.log2 < 1000000 by omega)
section
variable {X : Cx}
theorem op_bin (o : BO) : OpR X (binaryOp o.py) (BinS X.K o) := by
  intro pins s σ H x y v u Q I rx ry h
  obtain ⟨g, dx, dy, d, R, cx, cy, e, q⟩ := h
  have ii : ∀ {i j : Int} {z : Int} {f : Value → Value → Sem Value}, x = .int i → y = .int j → Q (.int z) H →
      (∀ t u', ∀ Q' : Value → Shared → Prop, Q' (.int z s.toks) { s with toks := s.toks + 1 } → wpAny (model X.prog X.w) X.A (f (.int i t) (.int j u')) Q' X.xe s) →
      wpAny (model X.prog X.w) X.A (f v u) (EP X pins σ Q) X.xe s := by
    intro i j z f ex ey hq hf
    subst ex ey
    obtain ⟨t, rfl⟩ := rx
    obtain ⟨t', rfl⟩ := ry
    exact hf t t' _ ⟨.int z, H, I.tok _, ⟨_, rfl⟩, hq⟩
  cases o with
  | add =>
    cases dx with
    | int i =>
      cases dy with
      | int j => cases e; exact ii cx.int cy.int (q.here R (.int _)) fun _ _ _ hq => add_int hq
      | _ => cases e
    | tuple xs =>
      cases dy with
      | tuple ys =>
        simp only [binD] at e
        split at e
        · rename_i hl
          cases e
          obtain ⟨a, vs, rfl, ta, ra⟩ := cx.tuple
          obtain ⟨b, us, rfl, tb, rb⟩ := cy.tuple
          refine op_catA pins s σ H _ _ v u Q I rx ry ⟨a, b, vs, us, rfl, rfl, ta.sq, tb.sq, by rw [← ra.length, ← rb.length]; exact okLen_le hl, fun z => ?_, fun _ z => ?_, fun _ _ p hp => ?_⟩
          · subst z
            have : xs = [] := List.eq_nil_of_length_eq_zero ra.length
            subst this
            exact q.here R (.tup tb rb)
          · subst z
            have : ys = [] := List.eq_nil_of_length_eq_zero rb.length
            subst this
            rw [List.append_nil] at q
            exact q.here R (.tup ta ra)
          · exact q.newT R (ra.append rb) p hp
        · cases e
      | _ => cases e
    | list xs =>
      cases dy with
      | list ys =>
        simp only [binD] at e
        split at e
        · rename_i hl
          cases e
          obtain ⟨a, vs, rfl, ta, ra⟩ := cx.list
          obtain ⟨b, us, rfl, tb, rb⟩ := cy.list
          exact op_cat pins s σ H _ _ v u Q I rx ry ⟨a, b, vs, us, rfl, rfl, ta, tb, by rw [← ra.length, ← rb.length]; exact okLen_le hl, fun p hp => q.newL R (ra.append rb) p hp⟩
        · cases e
      | _ => cases e
    | _ => cases dy <;> cases e
  | sub =>
    cases dx with
    | int i =>
      cases dy with
      | int j => cases e; exact ii cx.int cy.int (q.here R (.int _)) fun _ _ _ hq => sub_int hq
      | _ => cases e
    | _ => cases dy <;> cases e
  | mul =>
    cases dx with
    | int i =>
      cases dy with
      | int j =>
        simp only [binD] at e
        split at e
        · rename_i hm
          cases e
          exact ii cx.int cy.int (q.here R (.int _)) fun _ _ _ hq => mul_int hq (mulOk_ok hm)
        · cases e
      | _ => cases e
    | tuple xs =>
      cases dy with
      | int k =>
        simp only [binD] at e
        split at e
        · rename_i hl
          simp only [Bool.and_eq_true, decide_eq_true_eq] at hl
          cases e
          obtain ⟨a, vs, rfl, ta, ra⟩ := cx.tuple
          have ey := cy.int
          subst ey
          refine op_repG pins s σ H _ _ v u Q I rx ry ⟨a, k, vs, rfl, rfl, ta.sq, hl.2.1, hl.2.2, by rw [← ra.length]; exact okLen_le hl.1, fun z => ?_, fun _ _ p hp => q.newT R (ra.rep _) p hp⟩
          rcases z with z | z
          · subst z
            have : xs = [] := List.eq_nil_of_length_eq_zero ra.length
            subst this
            have e0 : (List.replicate k.toNat ([] : List PyData)).flatten = [] := by simp
            rw [e0] at q
            exact q.here R (.tup ta ra)
          · subst z
            have e0 : (List.replicate (Int.toNat 1) xs).flatten = xs := by simp [List.replicate]
            rw [e0] at q
            exact q.here R (.tup ta ra)
        · cases e
      | _ => cases e
    | list xs =>
      cases dy with
      | int k =>
        simp only [binD] at e
        split at e
        · rename_i hl
          simp only [Bool.and_eq_true, decide_eq_true_eq] at hl
          cases e
          obtain ⟨a, vs, rfl, ta, ra⟩ := cx.list
          have ey := cy.int
          subst ey
          exact op_rep pins s σ H _ _ v u Q I rx ry ⟨a, k, vs, rfl, rfl, ta, hl.2.1, hl.2.2, by rw [← ra.length]; exact okLen_le hl.1, fun p hp => q.newL R (ra.rep _) p hp⟩
        · cases e
      | _ => cases e
    | _ => cases dy <;> cases e
  | fdiv =>
    cases dx with
    | int i =>
      cases dy with
      | int j =>
        simp only [binD] at e
        split at e
        · rename_i hj
          have hj : 0 < j := of_decide_eq_true hj
          split at e
          · rename_i hl
            cases e
            have hl : j.natAbs.log2 < 9000 := Nat.le_of_ble_eq_true hl
            exact ii cx.int cy.int (q.here R (.int _)) fun _ _ _ hq => floordiv_int (by omega) (by rw [Int.fdiv_eq_ediv_of_nonneg i (by omega)]; exact hq) (.inl (PyProof.noPylong_of_log2 hl))
          · cases e
        · split at e
          · rename_i hl
            simp only [Bool.and_eq_true, decide_eq_true_eq] at hl
            cases e
            have h2 : j.natAbs < 1073741824 := Nat.le_of_ble_eq_true hl.2
            exact ii cx.int cy.int (q.here R (.int _)) fun _ _ _ hq => floordiv_int (by omega) hq (.inl (PyProof.noPylong_small h2))
          · cases e
      | _ => cases e
    | _ => cases dy <;> cases e
  | mod =>
    cases dx with
    | int i =>
      cases dy with
      | int j =>
        simp only [binD] at e
        split at e
        · rename_i hj
          have hj : 0 < j := of_decide_eq_true hj
          cases e
          exact ii cx.int cy.int (q.here R (.int _)) fun _ _ _ hq => mod_int' (by omega) (by rw [Int.fmod_eq_emod_of_nonneg i (by omega)]; exact hq)
        · split at e
          · rename_i hl
            have hl : j < 0 := of_decide_eq_true hl
            cases e
            exact ii cx.int cy.int (q.here R (.int _)) fun _ _ _ hq => mod_int' (by omega) hq
          · cases e
      | _ => cases e
    | _ => cases dy <;> cases e
  | pow =>
    cases dx with
    | int i =>
      cases dy with
      | int j =>
        simp only [binD] at e
        split at e
        · rename_i hl
          simp only [Bool.and_eq_true, decide_eq_true_eq] at hl
          cases e
          have h2 : i.natAbs < 2 ^ 64 := Nat.le_of_ble_eq_true hl.2.2
          exact ii cx.int cy.int (q.here R (.int _)) fun _ _ _ hq => pow_int_small hl.1 hl.2.1 h2 hq
        · cases e
      | _ => cases e
    | _ => cases dy <;> cases e
  | shl =>
    cases dx with
    | int i =>
      cases dy with
      | int j =>
        simp only [binD] at e
        split at e
        · rename_i hl
          simp only [Bool.and_eq_true, decide_eq_true_eq] at hl
          cases e
          have h2 : i.natAbs < 2 ^ 64 := Nat.le_of_ble_eq_true hl.2.2
          exact ii cx.int cy.int (q.here R (.int _)) fun _ _ _ hq => lshift_int_small hl.1 hl.2.1 h2 hq
        · cases e
      | _ => cases e
    | _ => cases dy <;> cases e
  | shr =>
    cases dx with
    | int i =>
      cases dy with
      | int j =>
        simp only [binD] at e
        split at e
        · rename_i hl
          have hl : 0 ≤ j := of_decide_eq_true hl
          cases e
          exact ii cx.int cy.int (q.here R (.int _)) fun _ _ _ hq => rshift_int hl (by rw [Int.fdiv_eq_ediv_of_nonneg i (two_pow_nn _)]; exact hq)
        · cases e
      | _ => cases e
    | _ => cases dy <;> cases e
  | band =>
    cases dx with
    | int i =>
      cases dy with
      | int j => cases e; exact ii cx.int cy.int (q.here R (.int _)) fun _ _ _ hq => and_int hq
      | _ => cases e
    | _ => cases dy <;> cases e
end
end MP

namespace MP
open PySem PySem.Spec L2
open PyProof.Rows hiding St

/-! ### dicts -/
section
variable {K : PySem.W.Frag} {H : Hp} {g : G} {κ : Type} [DecidableEq κ]
theorem KRs.length {κ : Type} : ∀ {xs : List (κ × Vl)} {vs : List (κ × V)}, KRs K H g xs vs → xs.length = vs.length
  | _, _, .nil => rfl
  | _, _, .cons _ t => congrArg Nat.succ t.length
theorem KRs.look : ∀ {xs : List (κ × Vl)} {vs : List (κ × V)} (k : κ), KRs K H g xs vs → (look xs k = none ∧ valV vs k = none) ∨ ∃ w v, look xs k = some w ∧ valV vs k = some v ∧ VR K H g w v
  | _, _, _, .nil => .inl ⟨rfl, rfl⟩
  | _, _, k, @KRs.cons _ _ _ _ q x xs v vs r t => by
    by_cases e : q = k
    · exact .inr ⟨x, v, by simp [MP.look, e], by rw [valV_pos e], r⟩
    · rcases KRs.look k t with ⟨h1, h2⟩ | ⟨w, u, h1, h2, h3⟩
      · exact .inl ⟨by simp only [MP.look, if_neg e]; exact h1, by rw [valV_neg e]; exact h2⟩
      · exact .inr ⟨w, u, by simp only [MP.look, if_neg e]; exact h1, by rw [valV_neg e]; exact h2, h3⟩
theorem KRs.any : ∀ {xs : List (κ × Vl)} {vs : List (κ × V)} (k : κ), KRs K H g xs vs → (xs.any fun kv => decide (kv.1 = k)) = (vs.any fun kv => decide (kv.1 = k))
  | _, _, _, .nil => rfl
  | _, _, k, @KRs.cons _ _ _ _ q x xs v vs r t => by
    rw [List.any_cons, List.any_cons, KRs.any k t]
theorem KRs.mapK {w : Vl} {u : V} (r : VR K H g w u) (k : κ) : ∀ {xs : List (κ × Vl)} {vs : List (κ × V)}, KRs K H g xs vs → KRs K H g (xs.map fun kv => if kv.1 = k then (kv.1, w) else kv) (vs.map fun kv => if kv.1 = k then (kv.1, u) else kv)
  | _, _, .nil => .nil
  | _, _, @KRs.cons _ _ _ _ q x xs v vs h t => by
    rw [List.map_cons, List.map_cons]
    by_cases e : q = k
    · simp only [if_pos e]
      exact .cons r (KRs.mapK r k t)
    · simp only [if_neg e]
      exact .cons h (KRs.mapK r k t)
theorem KRs.append {κ : Type} : ∀ {xs ys : List (κ × Vl)} {vs us : List (κ × V)}, KRs K H g xs vs → KRs K H g ys us → KRs K H g (xs ++ ys) (vs ++ us)
  | _, _, _, _, .nil, s => s
  | _, _, _, _, .cons h t, s => .cons h (KRs.append t s)
theorem KRs.put {w : Vl} {u : V} (r : VR K H g w u) (k : κ) {xs : List (κ × Vl)} {vs : List (κ × V)} (h : KRs K H g xs vs) : KRs K H g (putV xs k w) (putK vs k u) := by
  unfold putV putK
  rw [KRs.any k h]
  split
  · exact h.mapK r k
  · exact h.append (.cons r .nil)
end
theorem keyOf_ok {d : PyData} {k : Key} {K : PySem.W.Frag} {H : Hp} {ow : Addr → Prop} {v : V} (e : keyOf d = some k) (h : DR K H ow d v) : v = kV k := by
  cases d <;> cases e <;> cases h <;> rfl
theorem keysOf_ok {K : PySem.W.Frag} {H : Hp} {ow : Addr → Prop} : ∀ {ds : List PyData} {ks : List Key} {vs : List V}, keysOf ds = some ks → DRs K H ow ds vs → vs = ks.map kV
  | [], ks, vs, e, h => by
    cases e
    cases h
    rfl
  | d :: ds, ks, vs, e, h => by
    cases h with
    | cons h t =>
      unfold keysOf at e
      cases q : keyOf d with
      | none => rw [q] at e; cases e
      | some k =>
        cases q2 : keysOf ds with
        | none => rw [q, q2] at e; cases e
        | some ks' =>
          rw [q, q2] at e
          cases e
          rw [keyOf_ok q h, keysOf_ok q2 t]
          rfl
theorem keyT_ok {d : PyData} {k : List Key} {K : PySem.W.Frag} {H : Hp} {ow : Addr → Prop} {v : V} (e : keyT d = some k) (h : DR K H ow d v) : ∃ b, v = .ref b ∧ H b = some (.tup (k.map kV)) := by
  cases h with
  | tup h t =>
    refine ⟨_, rfl, ?_⟩
    rw [← keysOf_ok e t]
    exact h.1
  | _ => cases e
/-- what a dict of ours holds at a key -/
theorem dget_ok {K : PySem.W.Frag} {H : Hp} {g : G} {a : Addr} {o : O} {d : PyData} {y : V} (q : OR K H g a o) (h : DR K H g.own d y) :
    (∀ kvs k, o = .dic kvs → keyOf d = some k → ∃ r, DGet H a y r ∧ ((look kvs k = none ∧ r = none) ∨ ∃ w v, look kvs k = some w ∧ r = some v ∧ VR K H g w v)) ∧
    (∀ kvs k, o = .dit kvs → keyT d = some k → ∃ r, DGet H a y r ∧ ((look kvs k = none ∧ r = none) ∨ ∃ w v, look kvs k = some w ∧ r = some v ∧ VR K H g w v)) := by
  refine ⟨fun kvs k eo ek => ?_, fun kvs k eo ek => ?_⟩
  · subst eo
    obtain ⟨vs, hv, r⟩ := q
    have ey := keyOf_ok ek h
    subst ey
    refine ⟨valV vs k, DGet.k hv, ?_⟩
    rcases r.look k with ⟨h1, h2⟩ | ⟨w, u, h1, h2, h3⟩
    · exact .inl ⟨h1, h2⟩
    · exact .inr ⟨w, u, h1, h2, h3⟩
  · subst eo
    obtain ⟨vs, hv, r⟩ := q
    obtain ⟨b, ey, eb⟩ := keyT_ok ek h
    subst ey
    refine ⟨valV vs k, DGet.t hv eb, ?_⟩
    rcases r.look k with ⟨h1, h2⟩ | ⟨w, u, h1, h2, h3⟩
    · exact .inl ⟨h1, h2⟩
    · exact .inr ⟨w, u, h1, h2, h3⟩

/-! ### comparisons -/
def CO.py : CO → CmpOp
  | .eq => .Eq | .ne => .NotEq | .lt => .Lt | .le => .LtE | .gt => .Gt | .ge => .GtE | .is_ => .Is | .isn => .IsNot | .in_ => .In | .nin => .NotIn
def CmpS (K : PySem.W.Frag) (o : CO) : R2 := fun x y H Q => ∃ g wx wy b, HR K H g ∧ VR K H g wx x ∧ VR K H g wy y ∧ cmpV o g.h wx wy = some b ∧ Q (.bl b) H
section
variable {X : Cx}
theorem eqD_ok {a b : PyData} {k : Bool} (h : eqD a b = some k) : (∃ i j, a = .int i ∧ b = .int j ∧ k = (i == j)) ∨ (SeqAt.shaped a = true ∧ SeqAt.shaped b = true ∧ k = PyData.eqv a b) := by
  unfold eqD at h
  split at h
  · rename_i i j
    cases h
    exact .inl ⟨_, _, rfl, rfl, rfl⟩
  · split at h
    · rename_i c
      rw [Bool.and_eq_true] at c
      cases h
      exact .inr ⟨shp64_ok c.1, shp64_ok c.2, rfl⟩
    · cases h
theorem inDs_ok {d : PyData} {ds : List PyData} {k : Bool} (h : inDs d ds = some k) : SeqAt.shaped d = true ∧ SeqAt.shaped (.list ds) = true ∧ k = ds.any fun z => PyData.eqv z d := by
  unfold inDs at h
  split at h
  · rename_i c
    rw [Bool.and_eq_true] at c
    cases h
    exact ⟨shp64_ok c.1, shp64_ok c.2, rfl⟩
  · cases h
theorem in_list {neg : Bool} {pins : List (Addr × Obj)} {s : Shared} {σ : L2.St} {H : Hp} {x y : V} {v u : Value} {Q : VK} {ow : Addr → Prop} {d : PyData} {ds : List PyData} {b : Bool} (hu : X.A.units + 66 < cLine) (I : Inv X pins σ H s) (rx : RelV x v) (ry : RelV y u)
    (cx : Dp X.K H x d) (cy : CurR X.K H ow (.list ds) y) (e : inDs d ds = some b) (q : Q (.bl (if neg then !b else b)) H) : wpAny (model X.prog X.w) X.A (compareOp (if neg then .NotIn else .In) v u) (EP X pins σ Q) X.xe s := by
  obtain ⟨s1, s2, rfl⟩ := inDs_ok e
  cases neg with
  | false => exact op_inD (by omega) pins s σ H x y v u Q I rx ry ⟨d, ds, cx, cy.dp, s1, s2, q⟩
  | true => exact op_notInD (by omega) pins s σ H x y v u Q I rx ry ⟨d, ds, cx, cy.dp, s1, s2, q⟩
theorem in_tup {neg : Bool} {pins : List (Addr × Obj)} {s : Shared} {σ : L2.St} {H : Hp} {x y : V} {v u : Value} {Q : VK} {ow : Addr → Prop} {d : PyData} {ds : List PyData} {b : Bool} (hu : X.A.units + 66 < cLine) (I : Inv X pins σ H s) (rx : RelV x v) (ry : RelV y u)
    (cx : Dp X.K H x d) (cy : CurR X.K H ow (.tuple ds) y) (e : inDs d ds = some b) (q : Q (.bl (if neg then !b else b)) H) : wpAny (model X.prog X.w) X.A (compareOp (if neg then .NotIn else .In) v u) (EP X pins σ Q) X.xe s := by
  obtain ⟨s1, s2, rfl⟩ := inDs_ok e
  obtain ⟨as, r1⟩ := Dp.reads I d x v cx rx
  obtain ⟨bs, r2⟩ := Dp.reads I (.tuple ds) y u cy.dp ry
  have hl : PyData.canLayAll0 ds = true := SeqAt.canLay_of_shaped s2
  have hr : X.A.units + 1 + min (PyData.depthAll ds) d.depth < cLine := room_in_shaped s1 (by omega)
  cases neg with
  | false => exact SeqAt.in_tuple_reads r2 r1 hl (SeqAt.canLay_of_shaped s1) hr ⟨.bl _, H, I, rfl, q⟩
  | true => exact SeqAt.notIn_tuple_reads r2 r1 hl (SeqAt.canLay_of_shaped s1) hr ⟨.bl _, H, I, rfl, q⟩
/-- the plain ones -/
theorem cmpD_ok (hu : X.A.units + 66 < cLine) {o : CO} {pins : List (Addr × Obj)} {s : Shared} {σ : L2.St} {H : Hp} {x y : V} {v u : Value} {Q : VK} {ow : Addr → Prop} {dx dy : PyData} {b : Bool} (I : Inv X pins σ H s) (rx : RelV x v) (ry : RelV y u)
    (cx : CurR X.K H ow dx x) (cy : CurR X.K H ow dy y) (e : cmpD o dx dy = some b) (q : Q (.bl b) H) : wpAny (model X.prog X.w) X.A (compareOp o.py v u) (EP X pins σ Q) X.xe s := by
  have isB : ∀ {k : Bool}, isD dx dy = some k → (Q (.bl k) H → wpAny (model X.prog X.w) X.A (compareOp .Is v u) (EP X pins σ Q) X.xe s) ∧ (Q (.bl (!k)) H → wpAny (model X.prog X.w) X.A (compareOp .IsNot v u) (EP X pins σ Q) X.xe s) := by
    intro k h
    have non : dy = .none → k = decide (x = .non) → (Q (.bl k) H → wpAny (model X.prog X.w) X.A (compareOp .Is v u) (EP X pins σ Q) X.xe s) ∧ (Q (.bl (!k)) H → wpAny (model X.prog X.w) X.A (compareOp .IsNot v u) (EP X pins σ Q) X.xe s) := by
      intro e1 e2
      subst e1 e2
      exact ⟨fun q => op_isN pins s σ H x y v u Q I rx ry ⟨cy.none, q⟩, fun q => op_notN pins s σ H x y v u Q I rx ry ⟨cy.none, q⟩⟩
    unfold isD at h
    split at h
    · cases h
      exact non rfl (by rw [cx.none]; rfl)
    · rename_i d0 hne
      cases h
      refine non rfl ?_
      have : x ≠ .non := cx.ne_none (fun z => hne z)
      exact (decide_eq_false this).symm
    · rename_i a c
      cases h
      have e1 := cx.bool
      have e2 := cy.bool
      subst e1 e2
      have z : (a == c) = decide (a = c) := Bool.beq_eq_decide_eq a c
      rw [z]
      exact ⟨fun q => op_isBl pins s σ H _ _ v u Q I rx ry ⟨a, c, rfl, rfl, q⟩, fun q => op_notBl pins s σ H _ _ v u Q I rx ry ⟨a, c, rfl, rfl, q⟩⟩
    · cases h
  have ii : ∀ {i j : Int} {k : Bool} {op : CmpOp} {f : Int → Int → Bool}, OpR X (compareOp op) (rI0 fun i j => .bl (f i j)) → dx = .int i → dy = .int j → Q (.bl (f i j)) H → wpAny (model X.prog X.w) X.A (compareOp op v u) (EP X pins σ Q) X.xe s := by
    intro i j k op f r e1 e2 q
    subst e1 e2
    exact r pins s σ H x y v u Q I rx ry ⟨i, j, cx.int, cy.int, q⟩
  cases o with
  | eq =>
    rcases eqD_ok e with ⟨i, j, rfl, rfl, rfl⟩ | ⟨s1, s2, rfl⟩
    · have e1 := cx.int
      have e2 := cy.int
      subst e1 e2
      refine op_eq pins s σ H _ _ v u Q I rx ry ⟨rfl, ?_⟩
      rw [dec_int]; exact q
    · exact op_eqD (by omega) pins s σ H x y v u Q I rx ry ⟨dx, dy, cx.dp, cy.dp, s1, s2, q⟩
  | ne =>
    obtain ⟨k, h1, h2⟩ := Option.map_eq_some_iff.mp (show (eqD dx dy).map (!·) = some b from e)
    subst h2
    rcases eqD_ok h1 with ⟨i, j, rfl, rfl, rfl⟩ | ⟨s1, s2, rfl⟩
    · have e1 := cx.int
      have e2 := cy.int
      subst e1 e2
      refine op_ne pins s σ H _ _ v u Q I rx ry ⟨rfl, ?_⟩
      rw [dec_int]; exact q
    · exact op_neD (by omega) pins s σ H x y v u Q I rx ry ⟨dx, dy, cx.dp, cy.dp, s1, s2, q⟩
  | lt =>
    have e : ltQ dx dy = some b := e
    unfold ltQ at e
    split at e
    · cases e
      exact ii (k := true) op_lt rfl rfl q
    · exact op_ltD hu pins s σ H x y v u Q I rx ry ⟨dx, dy, b, cx.dp, cy.dp, e, q⟩
  | le =>
    have e : leI dx dy = some b := e
    unfold leI at e
    split at e
    · cases e
      exact ii (k := true) op_le rfl rfl q
    · cases e
  | gt =>
    have e : gtI dx dy = some b := e
    unfold gtI at e
    split at e
    · cases e
      exact ii (k := true) op_gt rfl rfl q
    · cases e
  | ge =>
    have e : leI dy dx = some b := e
    unfold leI at e
    split at e
    · cases e
      exact ii (k := true) op_ge rfl rfl q
    · cases e
  | is_ => exact (isB e).1 q
  | isn =>
    obtain ⟨k, h1, h2⟩ := Option.map_eq_some_iff.mp (show (isD dx dy).map (!·) = some b from e)
    subst h2
    exact (isB h1).2 q
  | in_ =>
    have e : inQ dx dy = some b := e
    unfold inQ at e
    split at e
    · exact in_list (neg := false) hu I rx ry cx.dp cy e q
    · exact in_tup (neg := false) hu I rx ry cx.dp cy e q
    · cases e
  | nin =>
    obtain ⟨k, e1, h2⟩ := Option.map_eq_some_iff.mp (show (inQ dx dy).map (!·) = some b from e)
    subst h2
    unfold inQ at e1
    split at e1
    · exact in_list (neg := true) hu I rx ry cx.dp cy e1 q
    · exact in_tup (neg := true) hu I rx ry cx.dp cy e1 q
    · cases e1
theorem inR_ok (hu : X.A.units + 66 < cLine) {neg : Bool} {pins : List (Addr × Obj)} {s : Shared} {σ : L2.St} {H : Hp} {x y : V} {v u : Value} {Q : VK} {g : G} {d : PyData} {n : Nat} {b : Bool} (I : Inv X pins σ H s) (rx : RelV x v) (ry : RelV y u)
    (R : HR X.K H g) (cx : DR X.K H g.own d x) (cy : VR X.K H g (.r n) y) (e : inR g.h d n = some b) (q : Q (.bl (if neg then !b else b)) H) : wpAny (model X.prog X.w) X.A (compareOp (if neg then .NotIn else .In) v u) (EP X pins σ Q) X.xe s := by
  have hc := cy
  cases cy with
  | @r _ a ha =>
    cases ry
    unfold inR at e
    cases ho : g.h[n]? with
    | none => rw [ho] at e; cases e
    | some o =>
      rw [ho] at e
      have qo := R.obj n o a ho ha
      obtain ⟨dk, dt⟩ := dget_ok qo cx
      have fin : ∀ r, DGet H a x r → r.isSome = b → wpAny (model X.prog X.w) X.A (compareOp (if neg then .NotIn else .In) v (.ref a)) (EP X pins σ Q) X.xe s := fun r hg hb => by
        cases neg with
        | false => exact d_in (by omega) I hg rx fun s' I' => ⟨.bl _, H, I', rfl, by rw [hb]; exact q⟩
        | true => exact d_notIn (by omega) I hg rx fun s' I' => ⟨.bl _, H, I', rfl, by rw [hb]; exact q⟩
      cases o with
      | lst xs =>
        simp only at e
        split at e
        · rename_i ds hd
          refine in_list (neg := neg) (y := V.ref a) hu I rx rfl cx.dp (ow := g.own) ?_ e q
          obtain ⟨vs, hv, rv⟩ := qo
          exact .l hv (rv.toD hd)
        · cases e
      | dic kvs =>
        simp only [inO] at e
        split at e
        · rename_i k hk
          cases e
          obtain ⟨r, hg, hr⟩ := dk kvs k rfl hk
          refine fin r hg ?_
          rcases hr with ⟨h1, h2⟩ | ⟨w, v', h1, h2, _⟩ <;> rw [h1, h2] <;> rfl
        · cases e
      | dit kvs =>
        simp only [inO] at e
        split at e
        · rename_i k hk
          cases e
          obtain ⟨r, hg, hr⟩ := dt kvs k rfl hk
          refine fin r hg ?_
          rcases hr with ⟨h1, h2⟩ | ⟨w, v', h1, h2, _⟩ <;> rw [h1, h2] <;> rfl
        · cases e
      | gone => cases e
theorem op_cmp (hu : X.A.units + 66 < cLine) (o : CO) : OpR X (compareOp o.py) (CmpS X.K o) := by
  intro pins s σ H x y v u Q I rx ry h
  obtain ⟨g, wx, wy, b, R, vx, vy, e, q⟩ := h
  unfold cmpV at e
  split at e
  · rename_i d n
    cases vx with
    | d cx => exact inR_ok (neg := false) hu I rx ry R cx vy e q
  · rename_i d n
    cases vx with
    | d cx =>
      obtain ⟨k, e1, h2⟩ := Option.map_eq_some_iff.mp e
      subst h2
      exact inR_ok (neg := true) hu I rx ry R cx vy e1 q
  · cases e
    cases vx with
    | r _ =>
      cases vy with
      | d cy =>
        cases cy
        exact op_isN pins s σ H _ _ v u Q I rx ry ⟨rfl, q⟩
  · cases e
    cases vx with
    | r _ =>
      cases vy with
      | d cy =>
        cases cy
        exact op_notN pins s σ H _ _ v u Q I rx ry ⟨rfl, q⟩
  · split at e
    · rename_i dx dy h1 h2
      exact cmpD_ok hu I rx ry (cur_ok R vx h1) (cur_ok R vy h2) e q
    · cases e
end
end MP

namespace MP
open PySem PySem.Spec L2
open PyProof.Rows hiding St

/-! ### readings by combinators -/
def tE (K : PySem.W.Frag) (c : Cm) : TE := fun σ H Q => ∃ g ρ w h', SR K H g ρ σ ∧ HR K H g ∧ c ρ g.h = some (w, h') ∧ ∀ g' v H', g'.h = h' → Ext g H g' H' → HR K H' g' → VR K H' g' w v → Q v H'
def tT (K : PySem.W.Frag) (c : Ct) : TT := fun σ H Q => ∃ g ρ b h', SR K H g ρ σ ∧ HR K H g ∧ c ρ g.h = some (b, h') ∧ ∀ g' H', g'.h = h' → Ext g H g' H' → HR K H' g' → Q b H'
def tAs (K : PySem.W.Frag) (c : Cms) : TA := fun σ H Q => ∃ g ρ ws h', SR K H g ρ σ ∧ HR K H g ∧ c ρ g.h = some (ws, h') ∧ ∀ g' vs H', g'.h = h' → Ext g H g' H' → HR K H' g' → VRs K H' g' ws vs → Q vs H'
def tO (K : PySem.W.Frag) (c : Env' → Hm → Option (Option Int × Hm)) : TO := fun σ H Q => ∃ g ρ w h', SR K H g ρ σ ∧ HR K H g ∧ c ρ g.h = some (w, h') ∧ ∀ g' H', g'.h = h' → Ext g H g' H' → HR K H' g' → Q w H'
/-- a new list: its items, ahead of its being laid -/
def tF (K : PySem.W.Frag) (c : Cms) : TE := fun σ H Q => ∃ g ρ ws h', SR K H g ρ σ ∧ HR K H g ∧ c ρ g.h = some (ws, h') ∧
  ∀ g' p vs H', g'.h = h' → Ext g H g' H' → HR K H' g' → VRs K H' g' ws vs → H' p = none → Q (.ref p) (upd H' p (.lst vs))
structure XOk (X : Cx) : Prop where
  nd : X.N.Nodup
  calm : X.calm = true
  xe : X.xe = fun _ _ => False
  un : X.A.units + 200 < cLine
  kind : X.env.scope.kind = .function

theorem _root_.L2.PE.mpi {X : Cx} {e : Expr} {t t' : TE} (h : PE X e t) (k : ∀ σ H Q, t' σ H Q → t σ H Q) : PE X e t' := ⟨fun pins s σ H Q I q => h.run pins s σ H Q I (k σ H Q q)⟩
theorem _root_.L2.PT.mpi {X : Cx} {e : Expr} {t t' : TT} (h : PT X e t) (k : ∀ σ H Q, t' σ H Q → t σ H Q) : PT X e t' := ⟨fun pins s σ H Q I q => h.run pins s σ H Q I (k σ H Q q)⟩
theorem _root_.L2.PW.mpi {X : Cx} {e : Expr} {t t' : TT} (h : PW X e t) (k : ∀ σ H Q, t' σ H Q → t σ H Q) : PW X e t' := ⟨fun whole pins s σ H Q I q => h.run whole pins s σ H Q I (k σ H Q q)⟩
theorem _root_.L2.PA.mpi {X : Cx} {e : List Expr} {t t' : TA} (h : PA X e t) (k : ∀ σ H Q, t' σ H Q → t σ H Q) : PA X e t' := ⟨fun p pins s σ H Q I q => h.run p pins s σ H Q I (k σ H Q q)⟩
theorem _root_.L2.PO.mpi {X : Cx} {e : Option Expr} {t t' : TO} (h : PO X e t) (k : ∀ σ H Q, t' σ H Q → t σ H Q) : PO X e t' := ⟨fun pins s σ H Q I q => h.run pins s σ H Q I (k σ H Q q)⟩
theorem _root_.L2.PS.mpi {X : Cx} {e : Stmt} {t t' : TS} (h : PS X e t) (k : ∀ D σ H, t' D σ H → t D σ H) : PS X e t' := ⟨fun pins s σ H D I q => h.run pins s σ H D I (k D σ H q)⟩
theorem _root_.L2.PSs.mpi {X : Cx} {e : List Stmt} {t t' : TS} (h : PSs X e t) (k : ∀ D σ H, t' D σ H → t D σ H) : PSs X e t' := ⟨fun pins s σ H D I q => h.run pins s σ H D I (k D σ H q)⟩
theorem _root_.L2.PG.mpi {X : Cx} {e : Expr} {t t' : TG} (h : PG X e t) (k : ∀ v σ H Q, t' v σ H Q → t v σ H Q) : PG X e t' := ⟨fun pins s σ H v u Q I r q => h.run pins s σ H v u Q I r (k v σ H Q q)⟩
theorem _root_.L2.PI.mpi {X : Cx} {tg e : Expr} {t t' : TI} (h : PI X tg e t) (k : ∀ σ H R, t' σ H R → t σ H R) : PI X tg e t' := ⟨fun pins s σ H R I q => h.run pins s σ H R I (k σ H R q)⟩

section
variable {X : Cx} {K : PySem.W.Frag} {σ : L2.St} {H : Hp} {g : G} {ρ : Env'}
/-- one expression -/
theorem one {c : Cm} {w : Vl} {h1 : Hm} {R : V → Hp → Prop} (s : SR K H g ρ σ) (r : HR K H g) (e : c ρ g.h = some (w, h1))
    (k : ∀ g' v H', g'.h = h1 → Ext g H g' H' → HR K H' g' → VR K H' g' w v → R v H') : tE K c σ H R := ⟨g, ρ, w, h1, s, r, e, k⟩
/-- two, one behind the other -/
theorem two {ca cb : Cm} {x y : Vl} {h1 h2 : Hm} {R : V → V → Hp → Prop} (s : SR K H g ρ σ) (r : HR K H g) (e1 : ca ρ g.h = some (x, h1)) (e2 : cb ρ h1 = some (y, h2))
    (k : ∀ g' v u H', g'.h = h2 → Ext g H g' H' → HR K H' g' → VR K H' g' x v → VR K H' g' y u → R v u H') : tE K ca σ H fun v H1 => tE K cb σ H1 fun u H2 => R v u H2 :=
  one s r e1 fun g1 v H1 eg1 x1 r1 v1 => one (s.mono x1) r1 (by rw [eg1]; exact e2) fun g2 u H2 eg2 x2 r2 v2 => k g2 v u H2 eg2 (x1.trans x2) r2 (v1.mono x2) v2

/-! ### names, constants -/
theorem s_var {i : Nat} {x : Str} {pos : Pos} (hN : X.N[i]? = some x) (hv : Vis X.env.scope x) (hd : (x == ("__debug__" : Str)) = false) (hcd : (x == ("__classdict__" : Str)) = false) : PE X (.Name x pos) (tE X.K (cVar i)) := by
  refine (pe_var hN hv hd hcd).mpi fun σ H Q ⟨g, ρ, w, h', s, r, e, q⟩ => ?_
  unfold cVar at e
  split at e
  · rename_i w' hw
    cases e
    obtain ⟨v, h1, h2⟩ := s.2 i w hw
    exact ⟨v, h1, q g v H rfl .refl r h2⟩
  · cases e
theorem s_int {i : Int} {j pos} : PE X (.Constant (.int i) j pos) (tE X.K (cC (.int i))) := pe_int.mpi fun σ H Q ⟨g, ρ, w, h', s, r, e, q⟩ => by
  cases e
  exact q g _ H rfl .refl r (.d (.int i))
theorem s_bl {i : Bool} {j pos} : PE X (.Constant (.bool i) j pos) (tE X.K (cC (.bool i))) := pe_bl.mpi fun σ H Q ⟨g, ρ, w, h', s, r, e, q⟩ => by
  cases e
  exact q g _ H rfl .refl r (.d (.bl i))
theorem s_non {j pos} : PE X (.Constant .none j pos) (tE X.K (cC .none)) := pe_non.mpi fun σ H Q ⟨g, ρ, w, h', s, r, e, q⟩ => by
  cases e
  exact q g _ H rfl .refl r (.d .non)
theorem s_str {x : Str} {j pos} : PE X (.Constant (.str x) j pos) (tE X.K (cC (.str x))) := pe_str.mpi fun σ H Q ⟨g, ρ, w, h', s, r, e, q⟩ => by
  cases e
  exact q g _ H rfl .refl r (.d (.str x))

/-! ### operators -/
variable {a b c : Expr} {ca cb cc : Cm} {pos : Pos}
theorem Post.of {d : PyData} {h1 : Hm} {g0 : G} {H0 : Hp} {Q : VK} {g1 : G} {H1 : Hp} (e1 : g1.h = h1) (x : Ext g0 H0 g1 H1)
    (q : ∀ g' v H', g'.h = h1 → Ext g0 H0 g' H' → HR K H' g' → VR K H' g' (.d d) v → Q v H') : Post K H1 g1 d Q := fun v H' x' r' dv => q g1 v H' e1 (x.trans x') r' (.d dv)
theorem s_bin {o : BO} (ha : PE X a (tE X.K ca)) (hb : PE X b (tE X.K cb)) : PE X (.BinOp a o.py b pos) (tE X.K (cBin o ca cb)) := by
  refine (pe_op (op_bin o) ha hb).mpi fun σ H Q ⟨g, ρ, w, h', s, r, e, q⟩ => ?_
  unfold cBin at e
  split at e
  · cases e
  · rename_i x h1 e1
    split at e
    · cases e
    · rename_i y h2 e2
      split at e
      · rename_i dx dy c1 c2
        split at e
        · rename_i d hd
          cases e
          refine two s r e1 e2 fun g' v u H' eg x' r' v1 v2 => ?_
          subst eg
          exact ⟨g', dx, dy, d, r', cur_ok r' v1 c1, cur_ok r' v2 c2, hd, Post.of rfl x' q⟩
        · cases e
      · cases e
theorem s_neg (ha : PE X a (tE X.K ca)) : PE X (.UnaryOp .USub a pos) (tE X.K (cNeg ca)) := by
  refine (pe_un un_neg ha).mpi fun σ H Q ⟨g, ρ, w, h', s, r, e, q⟩ => ?_
  unfold cNeg at e
  split at e
  · rename_i i h1 e1
    cases e
    refine one s r e1 fun g' v H' eg x' r' v1 => ?_
    cases v1 with
    | d v1 =>
      cases v1
      exact ⟨i, rfl, q g' _ H' eg x' r' (.d (.int _))⟩
  · cases e

/-! ### tests and values -/
/-- from what gives a bool: as a value -/
theorem s_ofB {e : Expr} {t : TE} {ct : Ct} (h : PE X e t) (k : ∀ σ H Q, tE X.K (ofB ct) σ H Q → t σ H Q) : PE X e (tE X.K (ofB ct)) := h.mpi k
theorem toB_of {c : Cm} {ρ : Env'} {h : Hm} {b : Bool} {h' : Hm} (e : toB c ρ h = some (b, h')) : c ρ h = some (.d (.bool b), h') := by
  unfold toB at e
  split at e
  · rename_i b' h1 e1
    cases e
    exact e1
  · cases e
theorem ofB_of {c : Ct} {ρ : Env'} {h : Hm} {w : Vl} {h' : Hm} (e : ofB c ρ h = some (w, h')) : ∃ b, w = .d (.bool b) ∧ c ρ h = some (b, h') := by
  unfold ofB at e
  split at e
  · rename_i b' h1 e1
    cases e
    exact ⟨b', rfl, e1⟩
  · cases e
theorem toB_ofB (c : Ct) : toB (ofB c) = c := by
  funext ρ h
  unfold toB ofB
  cases c ρ h with
  | none => rfl
  | some p => obtain ⟨b, h1⟩ := p; rfl
/-- an expression with a bool value as a test -/
theorem s_test {e : Expr} {c : Cm} (h : PE X e (tE X.K c)) (he : ∀ whole, isTrue e X.env whole = (do let v ← whole; standAt e.pos; holding [v] (truthy v))) : PT X e (tT X.K (toB c)) := by
  refine (pt_val h he).mpi fun σ H Q ⟨g, ρ, b, h', s, r, e, q⟩ => ?_
  refine one s r (toB_of e) fun g' v H' eg x' r' v1 => ?_
  cases v1 with
  | d v1 =>
    cases v1
    exact ⟨b, rfl, q g' H' eg x' r'⟩
theorem cmp_k {o : CO} {ρ : Env'} {h : Hm} {b : Bool} {h' : Hm} (e : cCmpB o ca cb ρ h = some (b, h')) : ∃ x h1 y, ca ρ h = some (x, h1) ∧ cb ρ h1 = some (y, h') ∧ cmpV o h' x y = some b := by
  unfold cCmpB at e
  split at e
  · cases e
  · rename_i x h1 e1
    split at e
    · cases e
    · rename_i y h2 e2
      split at e
      · rename_i r hr
        cases e
        exact ⟨x, h1, y, e1, e2, hr⟩
      · cases e
theorem s_cmp {o : CO} (hx : XOk X) (ha : PE X a (tE X.K ca)) (hb : PE X b (tE X.K cb)) (hm : behindInMarks o.py b = false) : PE X (.Compare a [o.py] [b] pos) (tE X.K (ofB (cCmpB o ca cb))) := by
  have hu := hx.un
  refine (pe_cmpR (op_cmp (by omega) o) ha hb hm).mpi fun σ H Q ⟨g, ρ, w, h', s, r, e, q⟩ => ?_
  obtain ⟨k, rfl, ec0⟩ := ofB_of e
  clear e
  have e := ec0
  obtain ⟨x, h1, y, e1, e2, ec⟩ := cmp_k e
  refine two s r e1 e2 fun g' v u H' eg x' r' v1 v2 => ?_
  subst eg
  exact ⟨g', x, y, k, r', v1, v2, ec, q g' _ H' rfl x' r' (.d (.bl k))⟩
theorem s_cmpT {o : CO} (hx : XOk X) (ha : PE X a (tE X.K ca)) (hb : PE X b (tE X.K cb)) (hm : behindInMarks o.py b = false) : PT X (.Compare a [o.py] [b] pos) (tT X.K (cCmpB o ca cb)) := by
  have hu := hx.un
  refine (pt_cmpR (op_cmp (by omega) o) ha hb hm).mpi fun σ H Q ⟨g, ρ, k, h', s, r, e, q⟩ => ?_
  obtain ⟨x, h1, y, e1, e2, ec⟩ := cmp_k e
  refine two s r e1 e2 fun g' v u H' eg x' r' v1 v2 => ?_
  subst eg
  exact ⟨g', x, y, k, r', v1, v2, ec, k, rfl, q g' H' rfl x' r'⟩
theorem ch2_k {o p : CO} {ρ : Env'} {h : Hm} {k : Bool} {h' : Hm} (e : cCh2 o p ca cb cc ρ h = some (k, h')) : ∃ x h1 y h2, ca ρ h = some (x, h1) ∧ cb ρ h1 = some (y, h2) ∧
    ((cmpV o h2 x y = some false ∧ k = false ∧ h' = h2) ∨ (cmpV o h2 x y = some true ∧ ∃ z, cc ρ h2 = some (z, h') ∧ cmpV p h' y z = some k)) := by
  unfold cCh2 at e
  split at e
  · cases e
  · rename_i x h1 e1
    split at e
    · cases e
    · rename_i y h2 e2
      split at e
      · cases e
      · rename_i ec
        cases e
        exact ⟨x, h1, y, h', e1, e2, .inl ⟨ec, rfl, rfl⟩⟩
      · rename_i ec
        split at e
        · cases e
        · rename_i z h3 e3
          split at e
          · rename_i r hr
            cases e
            exact ⟨x, h1, y, h2, e1, e2, .inr ⟨ec, z, e3, hr⟩⟩
          · cases e
theorem s_ch2T {o p : CO} (hx : XOk X) (ha : PE X a (tE X.K ca)) (hb : PE X b (tE X.K cb)) (hc : PE X c (tE X.K cc)) (hm : lastMarks [o.py, p.py] [b, c] = false) : PT X (.Compare a [o.py, p.py] [b, c] pos) (tT X.K (cCh2 o p ca cb cc)) := by
  have hu := hx.un
  refine (pt_chain (op_cmp (by omega) o) (op_cmp (by omega) p) ha hb hc hm).mpi fun σ H Q ⟨g, ρ, k, h', s, r, e, q⟩ => ?_
  obtain ⟨x, h1, y, h2, e1, e2, ec⟩ := ch2_k e
  refine two s r e1 e2 fun g' v u H' eg x' r' v1 v2 => ?_
  subst eg
  rcases ec with ⟨ec, rfl, rfl⟩ | ⟨ec, z, e3, ep⟩
  · exact ⟨g', x, y, false, r', v1, v2, ec, false, rfl, iteF ⟨false, rfl, q g' H' rfl x' r'⟩⟩
  · refine ⟨g', x, y, true, r', v1, v2, ec, true, rfl, iteT ?_⟩
    refine one (s.mono x') r' e3 fun g2 w H2 eg2 x2 r2 v3 => ?_
    subst eg2
    exact ⟨g2, y, z, k, r2, v2.mono x2, v3, ep, k, rfl, q g2 H2 rfl (x'.trans x2) r2⟩
theorem s_ch2 {o p : CO} (hx : XOk X) (ha : PE X a (tE X.K ca)) (hb : PE X b (tE X.K cb)) (hc : PE X c (tE X.K cc)) (hm : lastMarks [o.py, p.py] [b, c] = false) : PE X (.Compare a [o.py, p.py] [b, c] pos) (tE X.K (ofB (cCh2 o p ca cb cc))) := by
  have hu := hx.un
  refine (pe_chain (op_cmp (by omega) o) (op_cmp (by omega) p) ha hb hc hm).mpi fun σ H Q ⟨g, ρ, w, h', s, r, e, q⟩ => ?_
  obtain ⟨k, rfl, ec0⟩ := ofB_of e
  clear e
  have e := ec0
  obtain ⟨x, h1, y, h2, e1, e2, ec⟩ := ch2_k e
  refine two s r e1 e2 fun g' v u H' eg x' r' v1 v2 => ?_
  subst eg
  rcases ec with ⟨ec, rfl, rfl⟩ | ⟨ec, z, e3, ep⟩
  · exact ⟨g', x, y, false, r', v1, v2, ec, false, rfl, iteF (q g' _ H' rfl x' r' (.d (.bl _)))⟩
  · refine ⟨g', x, y, true, r', v1, v2, ec, true, rfl, iteT ?_⟩
    refine one (s.mono x') r' e3 fun g2 w H2 eg2 x2 r2 v3 => ?_
    subst eg2
    exact ⟨g2, y, z, k, r2, v2.mono x2, v3, ep, q g2 _ H2 rfl (x'.trans x2) r2 (.d (.bl _))⟩

/-! ### and, or, not, if -/
variable {ta tb tc : Ct} {rest : List Expr}
theorem s_not (ha : PT X a (tT X.K ta)) : PT X (.UnaryOp .Not a pos) (tT X.K (cNot ta)) := by
  refine (pt_not ha).mpi fun σ H Q ⟨g, ρ, k, h', s, r, e, q⟩ => ?_
  unfold cNot at e
  split at e
  · cases e
  · rename_i b h1 e1
    cases e
    exact ⟨g, ρ, b, h', s, r, e1, q⟩
theorem and_k {ρ : Env'} {h : Hm} {k : Bool} {h' : Hm} (e : cAnd ta tb ρ h = some (k, h')) : (ta ρ h = some (false, h') ∧ k = false) ∨ ∃ h1, ta ρ h = some (true, h1) ∧ tb ρ h1 = some (k, h') := by
  unfold cAnd at e
  split at e
  · cases e
  · rename_i h1 e1
    cases e
    exact .inl ⟨e1, rfl⟩
  · rename_i h1 e1
    exact .inr ⟨h1, e1, e⟩
theorem or_k {ρ : Env'} {h : Hm} {k : Bool} {h' : Hm} (e : cOr ta tb ρ h = some (k, h')) : (ta ρ h = some (true, h') ∧ k = true) ∨ ∃ h1, ta ρ h = some (false, h1) ∧ tb ρ h1 = some (k, h') := by
  unfold cOr at e
  split at e
  · cases e
  · rename_i h1 e1
    cases e
    exact .inl ⟨e1, rfl⟩
  · rename_i h1 e1
    exact .inr ⟨h1, e1, e⟩
theorem s_andW (ha : PT X a (tT X.K ta)) (hb : PW X (.BoolOp .And (b :: rest) pos) (tT X.K tb)) : PW X (.BoolOp .And (a :: b :: rest) pos) (tT X.K (cAnd ta tb)) := by
  refine (pw_and ha hb).mpi fun σ H Q ⟨g, ρ, k, h', s, r, e, q⟩ => ?_
  rcases and_k e with ⟨e1, rfl⟩ | ⟨h1, e1, e2⟩
  · exact ⟨g, ρ, false, h', s, r, e1, fun g' H' eg x r' => iteF (q g' H' eg x r')⟩
  · exact ⟨g, ρ, true, h1, s, r, e1, fun g' H' eg x r' => iteT ⟨g', ρ, k, h', s.mono x, r', by rw [eg]; exact e2, fun g2 H2 eg2 x2 r2 => q g2 H2 eg2 (x.trans x2) r2⟩⟩
theorem s_orW (ha : PT X a (tT X.K ta)) (hb : PW X (.BoolOp .Or (b :: rest) pos) (tT X.K tb)) : PW X (.BoolOp .Or (a :: b :: rest) pos) (tT X.K (cOr ta tb)) := by
  refine (pw_or ha hb).mpi fun σ H Q ⟨g, ρ, k, h', s, r, e, q⟩ => ?_
  rcases or_k e with ⟨e1, rfl⟩ | ⟨h1, e1, e2⟩
  · exact ⟨g, ρ, true, h', s, r, e1, fun g' H' eg x r' => iteT (q g' H' eg x r')⟩
  · exact ⟨g, ρ, false, h1, s, r, e1, fun g' H' eg x r' => iteF ⟨g', ρ, k, h', s.mono x, r', by rw [eg]; exact e2, fun g2 H2 eg2 x2 r2 => q g2 H2 eg2 (x.trans x2) r2⟩⟩
/-- as values -/
theorem s_andE (ha : PE X a (tE X.K (ofB ta))) (hb : PE X (.BoolOp .And (b :: rest) pos) (tE X.K (ofB tb))) : PE X (.BoolOp .And (a :: b :: rest) pos) (tE X.K (ofB (cAnd ta tb))) := by
  refine (pe_and ha hb).mpi fun σ H Q ⟨g, ρ, w, h', s, r, e, q⟩ => ?_
  obtain ⟨k, rfl, ec0⟩ := ofB_of e
  clear e
  have e := ec0
  rcases and_k e with ⟨e1, rfl⟩ | ⟨h1, e1, e2⟩
  · refine one (w := .d (.bool false)) (h1 := h') s r (by unfold ofB; rw [e1]) fun g' v H' eg x r' v1 => ?_
    cases v1 with
    | d v1 =>
      cases v1
      exact ⟨false, rfl, iteF (q g' _ H' eg x r' (.d (.bl _)))⟩
  · refine one (w := .d (.bool true)) (h1 := h1) s r (by unfold ofB; rw [e1]) fun g' v H' eg x r' v1 => ?_
    cases v1 with
    | d v1 =>
      cases v1
      exact ⟨true, rfl, iteT (one (w := .d (.bool k)) (h1 := h') (s.mono x) r' (by unfold ofB; rw [eg, e2]) fun g2 v H2 eg2 x2 r2 v2 => q g2 v H2 eg2 (x.trans x2) r2 v2)⟩
theorem s_orE (ha : PE X a (tE X.K (ofB ta))) (hb : PE X (.BoolOp .Or (b :: rest) pos) (tE X.K (ofB tb))) : PE X (.BoolOp .Or (a :: b :: rest) pos) (tE X.K (ofB (cOr ta tb))) := by
  refine (pe_or ha hb).mpi fun σ H Q ⟨g, ρ, w, h', s, r, e, q⟩ => ?_
  obtain ⟨k, rfl, ec0⟩ := ofB_of e
  clear e
  have e := ec0
  rcases or_k e with ⟨e1, rfl⟩ | ⟨h1, e1, e2⟩
  · refine one (w := .d (.bool true)) (h1 := h') s r (by unfold ofB; rw [e1]) fun g' v H' eg x r' v1 => ?_
    cases v1 with
    | d v1 =>
      cases v1
      exact ⟨true, rfl, iteT (q g' _ H' eg x r' (.d (.bl _)))⟩
  · refine one (w := .d (.bool false)) (h1 := h1) s r (by unfold ofB; rw [e1]) fun g' v H' eg x r' v1 => ?_
    cases v1 with
    | d v1 =>
      cases v1
      exact ⟨false, rfl, iteF (one (w := .d (.bool k)) (h1 := h') (s.mono x) r' (by unfold ofB; rw [eg, e2]) fun g2 v H2 eg2 x2 r2 v2 => q g2 v H2 eg2 (x.trans x2) r2 v2)⟩
theorem s_notE (ha : PE X a (tE X.K (ofB ta))) : PE X (.UnaryOp .Not a pos) (tE X.K (ofB (cNot ta))) := by
  refine (pe_not ha).mpi fun σ H Q ⟨g, ρ, w, h', s, r, e, q⟩ => ?_
  obtain ⟨k, rfl, ec0⟩ := ofB_of e
  clear e
  have e := ec0
  unfold cNot at e
  split at e
  · cases e
  · rename_i b h1 e1
    cases e
    refine one (w := .d (.bool b)) (h1 := h') s r (by unfold ofB; rw [e1]) fun g' v H' eg x r' v1 => ?_
    cases v1 with
    | d v1 =>
      cases v1
      exact ⟨b, rfl, q g' _ H' eg x r' (.d (.bl _))⟩
theorem s_if (hc : PT X c (tT X.K tc)) (ha : PE X a (tE X.K ca)) (hb : PE X b (tE X.K cb)) : PE X (.IfExp c a b pos) (tE X.K (cIf tc ca cb)) := by
  refine (pe_ifExp hc ha hb).mpi fun σ H Q ⟨g, ρ, w, h', s, r, e, q⟩ => ?_
  unfold cIf at e
  split at e
  · cases e
  · rename_i h1 e1
    exact ⟨g, ρ, true, h1, s, r, e1, fun g' H' eg x r' => iteT (one (s.mono x) r' (by rw [eg]; exact e) fun g2 v H2 eg2 x2 r2 v2 => q g2 v H2 eg2 (x.trans x2) r2 v2)⟩
  · rename_i h1 e1
    exact ⟨g, ρ, false, h1, s, r, e1, fun g' H' eg x r' => iteF (one (s.mono x) r' (by rw [eg]; exact e) fun g2 v H2 eg2 x2 r2 v2 => q g2 v H2 eg2 (x.trans x2) r2 v2)⟩

/-! ### arguments, displays -/
variable {e : Expr} {es : List Expr} {ce : Cm} {cs : Cms}
theorem s_nil : PA X [] (tAs X.K cNil) := pa_nil.mpi fun σ H Q ⟨g, ρ, ws, h', s, r, e, q⟩ => by
  cases e
  exact q g [] H rfl .refl r .nil
theorem s_cons (ha : PE X e (tE X.K ce)) (hr : PA X es (tAs X.K cs)) (hs : starEach (e :: es) X.env = (false, eval e X.env) :: starEach es X.env) : PA X (e :: es) (tAs X.K (cCons ce cs)) := by
  refine (pa_cons ha hr hs).mpi fun σ H Q ⟨g, ρ, ws, h', s, r, e, q⟩ => ?_
  unfold cCons at e
  split at e
  · cases e
  · rename_i x h1 e1
    split at e
    · cases e
    · rename_i xs h2 e2
      cases e
      refine one s r e1 fun g' v H' eg x' r' v1 => ?_
      exact ⟨g', ρ, xs, h', s.mono x', r', by rw [eg]; exact e2, fun g2 vs H2 eg2 x2 r2 v2 => q g2 _ H2 eg2 (x'.trans x2) r2 (.cons (v1.mono x2) v2)⟩
theorem s_tup {k : Nat} (h : PA X es (tAs X.K cs)) : PE X (.Tuple es k pos) (tE X.K (cTup cs)) := by
  refine (pe_tup h).mpi fun σ H Q ⟨g, ρ, w, h', s, r, e, q⟩ => ?_
  unfold cTup at e
  split at e
  · cases e
  · rename_i xs h1 e1
    split at e
    · rename_i ds hd
      split at e
      · rename_i hl
        cases e
        refine ⟨g, ρ, xs, h', s, r, e1, fun g' vs H' eg x' r' v1 => ?_⟩
        have dr := v1.toD hd
        refine ⟨by rw [← dr.length]; exact okLen_le hl, fun p hp => ?_⟩
        subst eg
        exact (Post.of rfl x' q).newT r' dr p hp
      · cases e
    · cases e
theorem s_disp (h : PA X es (tAs X.K cs)) : PE X (.List es pos) (tF X.K (cDisp cs)) := by
  refine (pe_lst h).mpi fun σ H Q ⟨g, ρ, ws, h', s, r, e, q⟩ => ?_
  unfold cDisp at e
  split at e
  · cases e
  · rename_i xs h1 e1
    split at e
    · rename_i hl
      cases e
      refine ⟨g, ρ, ws, h', s, r, e1, fun g' vs H' eg x' r' v1 => ?_⟩
      exact ⟨by rw [← v1.length]; exact okLen_le hl, fun p hp => q g' p vs H' eg x' r' v1 hp⟩
    · cases e
/-- a new list as data; as ours -/
theorem fl_k {K : PySem.W.Frag} {c : Cms} {σ : L2.St} {H : Hp} {Q : VK} (h : tE K (cFl c) σ H Q) : tF K c σ H Q := by
  obtain ⟨g, ρ, w, h', s, r, e, q⟩ := h
  unfold cFl at e
  split at e
  · cases e
  · rename_i xs h1 e1
    split at e
    · rename_i ds hd
      cases e
      refine ⟨g, ρ, xs, h', s, r, e1, fun g' p vs H' eg x' r' v1 hp => ?_⟩
      exact (Post.of eg x' q).newL r' (v1.toD hd) p hp
    · cases e
theorem s_fl {e : Expr} {c : Cms} (h : PE X e (tF X.K c)) : PE X e (tE X.K (cFl c)) := h.mpi fun σ H Q z => fl_k z
theorem fm_k {K : PySem.W.Frag} {c : Cms} {σ : L2.St} {H : Hp} {Q : VK} (h : tE K (cFm c) σ H Q) : tF K c σ H Q := by
  obtain ⟨g, ρ, w, h', s, r, e, q⟩ := h
  unfold cFm at e
  split at e
  · cases e
  · rename_i xs h1 e1
    cases e
    refine ⟨g, ρ, xs, h1, s, r, e1, fun g' p vs H' eg x' r' v1 hp => ?_⟩
    have x2 := Ext.push (o := O.lst xs) (u := .lst vs) r' hp
    have r2 : HR K (upd H' p (.lst vs)) (g'.push p (.lst xs)) := r'.push hp ⟨vs, upd_same, v1.mono x2⟩
    refine q (g'.push p (.lst xs)) (.ref p) _ (by show g'.h ++ [.lst xs] = _; rw [eg]) (x'.trans x2) r2 (.r ?_)
    show (g'.φ ++ [p])[h1.length]? = some p
    rw [← eg, ← r'.len, List.getElem?_append_right (Nat.le_refl _)]
    simp
theorem s_fm {e : Expr} {c : Cms} (h : PE X e (tF X.K c)) : PE X e (tE X.K (cFm c)) := h.mpi fun σ H Q z => fm_k z
end
end MP

namespace MP
open PySem PySem.Spec L2
open PyProof.Rows hiding St

/-! ### places -/
def isSlice : Expr → Bool
  | .Slice .. => true
  | _ => false
def isStar : Expr → Bool
  | .Starred .. => true
  | _ => false
theorem plainIx_of {b : Expr} (h : isSlice b = false) : PlainIx b := by
  intro o i
  cases b <;> first
    | rfl
    | cases h
theorem star_of {X : Cx} {e : Expr} {es : List Expr} (h : isStar e = false) : starEach (e :: es) X.env = (false, eval e X.env) :: starEach es X.env := by
  cases e <;> first
    | rfl
    | cases h
theorem augStore_of {i : Expr} (h : isSlice i = false) : ∀ ov iv new, augStore i ov iv new = (do holding [new, ov, iv] (setItem ov iv new); release [new, ov, iv] []; pure .next) := by
  intro ov iv new
  cases i <;> first
    | rfl
    | cases h
section
variable {K : PySem.W.Frag} {H : Hp} {g : G}
theorem atI_map {α β : Type} (f : α → β) (xs : List α) (i : Int) : atI (xs.map f) i = (atI xs i).map f := by
  unfold atI
  rw [List.length_map]
  cases ixN xs.length i with
  | none => rfl
  | some j => simp
theorem DRs.atI {ow : Addr → Prop} {ds : List PyData} {vs : List V} (h : DRs K H ow ds vs) {i : Int} {d : PyData} (e : L2.atI ds i = some d) : ∃ v, L2.atI vs i = some v ∧ DR K H ow d v := by
  unfold L2.atI at e ⊢
  rw [← h.length]
  cases q : ixN ds.length i with
  | none => rw [q] at e; cases e
  | some j =>
    rw [q] at e
    exact h.get e
theorem VRs.atI {xs : List Vl} {vs : List V} (h : VRs K H g xs vs) {i : Int} {w : Vl} (e : L2.atI xs i = some w) : ∃ v, L2.atI vs i = some v ∧ VR K H g w v := by
  unfold L2.atI at e ⊢
  rw [← h.length]
  cases q : ixN xs.length i with
  | none => rw [q] at e; cases e
  | some j =>
    rw [q] at e
    exact h.get e
end
theorem ixL_k {xs : List PyData} {dy : PyData} {w : Vl} (e : ixL xs dy = some w) : ∃ i d, dy = .int i ∧ atI xs i = some d ∧ w = .d d := by
  cases dy with
  | int i =>
    obtain ⟨d, e1, e2⟩ := Option.map_eq_some_iff.mp (show (atI xs i).map Vl.d = some w from e)
    exact ⟨i, d, rfl, e1, e2.symm⟩
  | _ => cases e
def IxS (K : PySem.W.Frag) : R2 := fun x y H Q => ∃ g wx dy w, HR K H g ∧ VR K H g wx x ∧ DR K H g.own dy y ∧ ixV g.h wx dy = some w ∧ ∀ v, VR K H g w v → Q v H
/-- what an index finds: a sequence or a dict, by values -/
theorem ix_cases {X : Cx} {H : Hp} {g : G} {wx w : Vl} {dy : PyData} {x y : V} (R : HR X.K H g) (vx : VR X.K H g wx x) (vy : DR X.K H g.own dy y) (e : ixV g.h wx dy = some w) :
    ∃ v, VR X.K H g w v ∧ ((∃ p xs i, x = .ref p ∧ y = .int i ∧ SqL X.K H p xs ∧ atI xs i = some v) ∨ (∃ p xs i, x = .ref p ∧ y = .int i ∧ SqT X.K H p xs ∧ atI xs i = some v) ∨ ∃ p, x = .ref p ∧ DGet H p y (some v)) := by
  cases vx with
  | d vx =>
    cases vx with
    | lst h t =>
      obtain ⟨i, d, rfl, e1, rfl⟩ := ixL_k e
      cases vy
      obtain ⟨v, e2, dv⟩ := t.atI e1
      exact ⟨v, .d dv, .inl ⟨_, _, i, rfl, rfl, h.sq, e2⟩⟩
    | tup h t =>
      obtain ⟨i, d, rfl, e1, rfl⟩ := ixL_k e
      cases vy
      obtain ⟨v, e2, dv⟩ := t.atI e1
      exact ⟨v, .d dv, .inr (.inl ⟨_, _, i, rfl, rfl, h.sq, e2⟩)⟩
    | _ => cases e
  | s h =>
    obtain ⟨i, d, rfl, e1, rfl⟩ := ixL_k e
    cases vy
    rw [atI_map] at e1
    obtain ⟨z, e2, e3⟩ := Option.map_eq_some_iff.mp e1
    subst e3
    exact ⟨.int z, .d (.int z), .inl ⟨_, _, i, rfl, rfl, h.sq, by rw [atI_map, e2]; rfl⟩⟩
  | @r n a ha =>
    unfold ixV at e
    simp only at e
    split at e
    · rename_i xs ho
      split at e
      · rename_i i
        cases vy
        obtain ⟨vs, hv, rv⟩ := R.obj n _ a ho ha
        obtain ⟨v, e2, v2⟩ := rv.atI e
        exact ⟨v, v2, .inl ⟨a, vs, i, rfl, rfl, .inl (.inl hv), e2⟩⟩
      · cases e
    · rename_i kvs ho
      split at e
      · rename_i k hk
        obtain ⟨r, hg, hr⟩ := (dget_ok (R.obj n _ a ho ha) vy).1 kvs k rfl hk
        rcases hr with ⟨h1, _⟩ | ⟨w', v, h1, h2, h3⟩
        · rw [h1] at e; cases e
        · rw [h1] at e
          cases e
          subst h2
          exact ⟨v, h3, .inr (.inr ⟨a, rfl, hg⟩)⟩
      · cases e
    · rename_i kvs ho
      split at e
      · rename_i k hk
        obtain ⟨r, hg, hr⟩ := (dget_ok (R.obj n _ a ho ha) vy).2 kvs k rfl hk
        rcases hr with ⟨h1, _⟩ | ⟨w', v, h1, h2, h3⟩
        · rw [h1] at e; cases e
        · rw [h1] at e
          cases e
          subst h2
          exact ⟨v, h3, .inr (.inr ⟨a, rfl, hg⟩)⟩
      · cases e
    · cases e
theorem ix_all {X : Cx} (hx : XOk X) : IxR X (IxS X.K) := by
  intro value slice pins s σ H x y v u Q I rx ry h hs
  obtain ⟨g, wx, dy, w, R, vx, vy, e, q⟩ := h
  obtain ⟨z, vz, c⟩ := ix_cases R vx vy e
  have hu := hx.un
  rcases c with ⟨p, xs, i, e1, e2, h1, h2⟩ | ⟨p, xs, i, e1, e2, h1, h2⟩ | ⟨p, e1, h1⟩
  · exact ix_list value slice pins s σ H x y v u Q I rx ry ⟨p, xs, i, z, e1, e2, h1, h2, q z vz⟩ hs
  · exact ix_tup value slice pins s σ H x y v u Q I rx ry ⟨p, xs, i, z, e1, e2, h1, h2, q z vz⟩ hs
  · subst e1
    obtain rfl : v = Value.ref p := rx
    exact tail_any (dict_typeIs I h1) PySem.F.slot_dict_getitem.lookup (d_getItem (by omega) I h1 ry fun w' s' I' rw' => ⟨z, H, I', rw', q z vz⟩) hs
section
variable {X : Cx} {a b e : Expr} {ca cb ce : Cm} {cs : Cms} {es : List Expr} {pos : Pos}
theorem ix_k {ρ : Env'} {h : Hm} {w : Vl} {h' : Hm} (e : cIx ca cb ρ h = some (w, h')) : ∃ x h1 y, ca ρ h = some (x, h1) ∧ cb ρ h1 = some (.d y, h') ∧ ixV h' x y = some w := by
  unfold cIx at e
  split at e
  · cases e
  · rename_i x h1 e1
    split at e
    · rename_i y h2 e2
      split at e
      · rename_i z hz
        cases e
        exact ⟨x, h1, y, e1, e2, hz⟩
      · cases e
    · cases e
theorem s_ix (hx : XOk X) (ha : PE X a (tE X.K ca)) (hb : PE X b (tE X.K cb)) (hs : isSlice b = false) : PE X (.Subscript a b pos) (tE X.K (cIx ca cb)) := by
  refine (pe_ix (ix_all hx) ha hb (plainIx_of hs)).mpi fun σ H Q ⟨g, ρ, w, h', s, r, e, q⟩ => ?_
  obtain ⟨x, h1, y, e1, e2, e3⟩ := ix_k e
  refine two s r e1 e2 fun g' v u H' eg x' r' v1 v2 => ?_
  subst eg
  cases v2 with
  | d v2 => exact ⟨g', x, y, w, r', v1, v2, e3, fun z vz => q g' z H' rfl x' r' vz⟩

/-! ### slices -/
variable {lo hi : Option Expr} {cl ch : Env' → Hm → Option (Option Int × Hm)} {p2 : Pos}
theorem s_noPart : PO X none (tO X.K cNoPart) := po_none.mpi fun σ H Q ⟨g, ρ, w, h', s, r, e, q⟩ => by
  cases e
  exact q g H rfl .refl r
theorem s_part (ha : PE X a (tE X.K ca)) : PO X (some a) (tO X.K (cPart ca)) := by
  refine (po_some ha).mpi fun σ H Q ⟨g, ρ, w, h', s, r, e, q⟩ => ?_
  unfold cPart at e
  split at e
  · rename_i i h1 e1
    cases e
    refine one s r e1 fun g' v H' eg x' r' v1 => ?_
    cases v1 with
    | d v1 =>
      cases v1
      exact ⟨i, rfl, q g' H' eg x' r'⟩
  · cases e
theorem DRs.cut {K : PySem.W.Frag} {H : Hp} {ow : Addr → Prop} {ds : List PyData} {vs : List V} (h : DRs K H ow ds vs) (lo hi : Option Int) : DRs K H ow (cutL ds lo hi) (cutV vs lo hi) := by
  unfold cutL cutV
  rw [← h.length]
  exact (h.drop _).take _
def SlS (K : PySem.W.Frag) : V → Option Int → Option Int → Hp → VK → Prop := fun x lo hi H Q => ∃ g dx d, HR K H g ∧ CurR K H g.own dx x ∧ slD lo hi dx = some d ∧ Post K H g d Q
theorem sl_all : SlR X (SlS X.K) := by
  intro pins s σ H x v vl vu lo hi sl Q I rx hs pl pu h
  obtain ⟨g, dx, d, R, cx, e, q⟩ := h
  cases dx with
  | list xs =>
    cases e
    obtain ⟨a, vs, rfl, ta, ra⟩ := cx.list
    exact sl_list pins s σ H _ v vl vu lo hi sl Q I rx hs pl pu ⟨a, vs, rfl, .inl (.inl ta), fun p hp => q.newL R (ra.cut lo hi) p hp⟩
  | tuple xs =>
    cases e
    obtain ⟨a, vs, rfl, ta, ra⟩ := cx.tuple
    refine sl_tupA pins s σ H _ v vl vu lo hi sl Q I rx hs pl pu ⟨a, vs, rfl, ta.sq, fun z => ?_, fun _ p hp => q.newT R (ra.cut lo hi) p hp⟩
    have : cutL xs lo hi = xs := by
      unfold cutL
      rw [ra.length, z.1, z.2, ← ra.length, Nat.sub_zero, List.drop_zero, List.take_length]
    rw [this] at q
    exact q.here R (.tup ta ra)
  | _ => cases e
theorem s_sl (ha : PE X a (tE X.K ca)) (hl : PO X lo (tO X.K cl)) (hh : PO X hi (tO X.K ch)) : PE X (.Subscript a (.Slice lo hi none p2) pos) (tE X.K (cSl ca cl ch)) := by
  refine (pe_slice sl_all ha hl hh).mpi fun σ H Q ⟨g, ρ, w, h', s, r, e, q⟩ => ?_
  unfold cSl at e
  split at e
  · cases e
  · rename_i x h1 e1
    split at e
    · cases e
    · rename_i l h2 e2
      split at e
      · cases e
      · rename_i u h3 e3
        split at e
        · rename_i d hd
          split at e
          · rename_i z hz
            cases e
            refine one s r e1 fun g1 v H1 eg1 x1 r1 v1 => ?_
            refine ⟨g1, ρ, l, h2, s.mono x1, r1, by rw [eg1]; exact e2, fun g2 H2 eg2 x2 r2 => ?_⟩
            refine ⟨g2, ρ, u, h', (s.mono x1).mono x2, r2, by rw [eg2]; exact e3, fun g3 H3 eg3 x3 r3 => ?_⟩
            subst eg3
            exact ⟨g3, d, z, r3, cur_ok r3 ((v1.mono x2).mono x3) hd, hz, Post.of rfl ((x1.trans x2).trans x3) q⟩
          · cases e
        · cases e
end
end MP

namespace MP
open PySem PySem.Spec L2
open PyProof.Rows hiding St

/-! ### t[::-1] -/
section
variable {prog : Program} {w : World} {A : Around} {E : Value → Shared → Prop} {s : Shared}
theorem sliceApplied_rev {sl : Addr} {vl vu vs : Value} {n : Nat} {Q : Int × Int × Nat → Shared → Prop} (hs : s.heap.IsSliceOf sl vl vu vs) (pl : IsPart vl none) (pu : IsPart vu none) (ps : IsPart vs (some (-1)))
    (h : Q ((n : Int) - 1, -1, n) s) : wpAny (model prog w) A (Builtin.Slice.sliceApplied (.ref sl) (pure (n : Int))) Q E s := by
  obtain ⟨os, hos, hcs, hds⟩ := id hs
  unfold Builtin.Slice.sliceApplied Builtin.Slice.sliceFields
  refine wpAny_bind (wpAny_bind (wpAny_field hos hds (x := vl) rfl (wpAny_bind (wpAny_field hos hds (x := vu) rfl (wpAny_bind (wpAny_field hos hds (x := vs) rfl (wpAny_pure ?_)))))))
  refine wpAny_bind (HT.slicePart_ ps ?_)
  show wpAny _ _ (if ((-1 : Int) == 0) = true then _ else _) _ _ s
  rw [if_neg (by decide)]
  refine wpAny_bind (HT.slicePart_ pl (wpAny_bind (HT.slicePart_ pu (wpAny_bind (wpAny_pure ?_)))))
  have e1 : Builtin.Slice.sliceAdjust none none (-1) (n : Int) = ((n : Int) - 1, -1) := rfl
  have e2 : Builtin.Slice.slicePlaces ((n : Int) - 1) (-1) (-1) = n := by
    unfold Builtin.Slice.slicePlaces
    rw [if_neg (by decide)]
    by_cases h0 : (n : Int) - 1 > -1
    · rw [if_pos h0]
      rw [show (-(-1) : Int) = 1 by decide, Int.ediv_one]
      omega
    · rw [if_neg h0]
      omega
  show wpAny _ _ (match Builtin.Slice.sliceAdjust none none (-1) (n : Int) with | (lo, hi) => pure (lo, (-1 : Int), Builtin.Slice.slicePlaces lo hi (-1))) _ _ s
  rw [e1]
  show wpAny _ _ (pure ((n : Int) - 1, (-1 : Int), Builtin.Slice.slicePlaces ((n : Int) - 1) (-1) (-1))) _ _ s
  rw [e2]
  exact wpAny_pure h
theorem filterMap_some {α β : Type} (f : α → Option β) (g : α → β) : ∀ l : List α, (∀ m ∈ l, f m = some (g m)) → l.filterMap f = l.map g
  | [], _ => rfl
  | x :: l, h => by
    rw [List.filterMap_cons, h x List.mem_cons_self, List.map_cons]
    show g x :: l.filterMap f = _
    rw [filterMap_some f g l fun m hm => h m (List.mem_cons_of_mem _ hm)]
theorem getD_of {α : Type} {l : List α} {m : Nat} {d : α} (h : m < l.length) : l.getD m d = l[m] := by
  simp [List.getD, List.getElem?_eq_getElem h]
theorem rev_pick (xs : Array Value) : ((List.range xs.size).filterMap fun (m : Nat) => xs[(((xs.size : Int) - 1) + (m : Int) * -1).toNat]?).toArray = xs.toList.reverse.toArray := by
  congr 1
  have e : ((List.range xs.size).filterMap fun (m : Nat) => xs[(((xs.size : Int) - 1) + (m : Int) * -1).toNat]?) = (List.range xs.size).map fun m => xs.toList.reverse.getD m .none := by
    refine filterMap_some _ _ _ fun m hm => ?_
    have hm := List.mem_range.mp hm
    have h1 : (((xs.size : Int) - 1) + (m : Int) * -1).toNat = xs.size - 1 - m := by omega
    rw [h1]
    have h2 : xs.size - 1 - m < xs.size := by omega
    have h3 : m < xs.toList.reverse.length := by simp [hm]
    rw [Array.getElem?_eq_getElem h2, getD_of h3]
    congr 1
    rw [List.getElem_reverse]
    simp
  rw [e]
  refine List.ext_getElem? fun i => ?_
  by_cases hi : i < xs.size
  · rw [List.getElem?_map, List.getElem?_range hi]
    have h3 : i < xs.toList.reverse.length := by simp [hi]
    rw [List.getElem?_eq_getElem h3]
    show some (xs.toList.reverse.getD i Value.none) = some _
    rw [getD_of h3]
  · rw [List.getElem?_eq_none (by simp; omega), List.getElem?_eq_none (by simp; omega)]
theorem getItem_tuple_rev {t sl : Addr} {items : Array Value} {vl vu vs : Value} {Q : Value → Shared → Prop} (ht : IsTup s.heap t items) (hs : s.heap.IsSliceOf sl vl vu vs) (pl : IsPart vl none) (pu : IsPart vu none) (ps : IsPart vs (some (-1)))
    (h : Q (.ref s.heap.objs.size) { s with heap := s.heap.push { cls := .type "tuple", data := .seq items.toList.reverse.toArray } })
    (hsz : items.size ≤ sizeLine) : wpAny (model prog w) A (getItem (.ref t) (.ref sl)) Q E s := by
  have htake : sizeOk (.seq items.toList.reverse.toArray) := by
    show items.toList.reverse.toArray.size ≤ sizeLine
    rw [List.size_toArray, List.length_reverse, Array.length_toList]
    exact hsz
  obtain ⟨os, hos, hcs, hds⟩ := id hs
  have hTs : s.TypeIs (.ref sl) "slice" := ⟨os, hos, hcs⟩
  unfold getItem
  try with_reducible refine wpAny_holding ?_
  first | refine wpAny_bind (wpAny_pure ?_) | skip
  refine wpAny_bind (wpAny_sequenceKey ht.typeIs (by decide) ?_)
  refine wpAny_bind (wpAny_callSpecial?_slot (name := Str.ofString "__getitem__") ht.typeIs PyProof.Rows.slot_tuple_getitem
    (wpAny_call_entry PyProof.Rows.slot_tuple_getitem ht.typeIs entry_tuple_getitem ?_ (args_tuple_getitem _ _)))
  show wpAny _ _ (Builtin.Tuple.tupleItemsOf (.ref t) >>= _) _ _ s
  refine wpAny_bind (tupleItemsOf_ ht ?_)
  refine wpAny_bind (wpAny_typeOf hTs ?_)
  rw [if_pos (by decide)]
  refine wpAny_bind (sliceApplied_rev hs pl pu ps ?_)
  have hno : ¬ ((((items.size : Int) - 1) == 0 && (-1 : Int) == 1 && items.size == items.size) = true) := by
    intro q
    rw [Bool.and_eq_true, Bool.and_eq_true] at q
    exact absurd (eq_of_beq q.1.2) (by decide)
  show wpAny _ _ (if (((items.size : Int) - 1) == 0 && (-1 : Int) == 1 && items.size == items.size) = true then _ else _) _ _ s
  rw [if_neg hno, rev_pick]
  first
    | exact wpAny_bind (m := Builtin.Tuple.tupleExact _) (wpAny_newObj_type (wpAny_pure ⟨_, rfl, wpAny_pure h⟩) htake)
    | exact wpAny_bind (m := Builtin.Tuple.tupleExact _) (wpAny_newObj_type (wpAny_bind (wpAny_pure (wpAny_pure ⟨_, rfl, wpAny_pure h⟩))) htake)
    | exact wpAny_bind (wpAny_bind (m := Builtin.Tuple.tupleExact _) (wpAny_newObj_type (wpAny_pure (wpAny_pure ⟨_, rfl, wpAny_pure h⟩)) htake))
    | exact wpAny_bind (wpAny_bind (m := Builtin.Tuple.tupleExact _) (wpAny_newObj_type (wpAny_pure ⟨_, rfl, wpAny_pure h⟩) htake))
end
section
variable {X : Cx} {a : Expr} {ca : Cm}
theorem s_rev {k : Nat} {p1 p2 p3 pos : Pos} (ha : PE X a (tE X.K ca)) : PE X (.Subscript a (.Slice none none (some (.UnaryOp .USub (.Constant (.int 1) k p1) p2)) p3) pos) (tE X.K (cRev ca)) := by
  refine ⟨fun pins s σ H Q I ⟨g, ρ, w, h', sr, r, e, q⟩ => ?_⟩
  unfold cRev at e
  split at e
  · cases e
  · rename_i x h1 e1
    split at e
    · rename_i d hd
      split at e
      · rename_i z hz
        cases e
        refine Subscript_ (thn (ha.run pins s σ H _ I (one (R := fun v H' => ∃ g', g'.h = h' ∧ Ext g H g' H' ∧ HR X.K H' g' ∧ CurR X.K H' g'.own d v) sr r e1 fun g' v H' eg x' r' v1 => ⟨g', eg, x', r', cur_ok r' v1 (by rw [eg]; exact hd)⟩)) fun v s1 ⟨x, H1, I1, r1, g', eg, x', r', cx⟩ => ?_)
        have qp : Post X.K H1 g' z Q := Post.of eg x' q
        have hst : PO X (some (.UnaryOp .USub (.Constant (.int 1) k p1) p2)) (tPart (tUn (rU fun i => .int (-i)) (tC (.int 1)))) := po_some (pe_un un_neg pe_int)
        refine wpAny_Slice (thn (po_none.run pins s1 σ H1 (fun o H2 => o = none ∧ H2 = H1) I1 ⟨rfl, rfl⟩) fun vl s2 ⟨l, H2, I2, pl, el, e2⟩ => ?_)
        subst el e2
        refine thn (po_none.run pins s2 σ H2 (fun o H3 => o = none ∧ H3 = H2) I2 ⟨rfl, rfl⟩) fun vu s3 ⟨u, H3, I3, pu, eu, e3⟩ => ?_
        subst eu e3
        refine thn (hst.run pins s3 σ H3 (fun o H4 => o = some (-1) ∧ H4 = H3) I3 ⟨1, rfl, -1, rfl, rfl, rfl⟩) fun vs s4 ⟨o, H4, I4, ps, eo, e4⟩ => ?_
        subst eo e4
        have I5 : Inv X pins σ H4 { s4 with heap := s4.heap.push { cls := .type "slice", data := .fields #[vl, vu, vs] } } := I4.kept (t' := s4.toks) fun b ob q => Heap.get?_push_of_some _ q
        cases d with
        | list xs =>
          cases hz
          obtain ⟨b, us, rfl, tb, rb⟩ := cx.list
          cases r1
          obtain ⟨its, rv, ht, hsz⟩ := I5.list (.inl (.inl tb))
          have hlen := rv.length
          show wpAny (model X.prog X.w) X.A (subscriptTail a (.Slice none none (some (.UnaryOp .USub (.Constant (.int 1) k p1) p2)) p3) (.ref b) (.ref s4.heap.objs.size)) (EP X pins σ Q) X.xe { s4 with heap := s4.heap.push { cls := .type "slice", data := .fields #[vl, vu, vs] } }
          refine tail_any (ops := [.ref b, .ref s4.heap.objs.size]) ht.isList.typeIs (PySem.slot_list_getitem.lookup) ?_ (by with_unfolding_all rfl)
          refine wpAny_getItem_list_slice ht.isList (Heap.IsSliceOf.new _ vl vu vs) pl pu ps (by decide) ?_ (by rw [List.size_toArray]; omega)
          rw [PySem.W.krv_pick]
          refine ⟨.ref _, _, I5.laid (t' := s4.toks) (o := .lst us.reverse) (fun b ob q => Heap.get?_push_of_some _ q) (Nat.le_refl _) ?_, rfl, qp.newL r' rb.reverse _ (I5.hok.fresh (Nat.le_refl _))⟩
          exact ⟨by rw [List.length_reverse]; exact hsz, _, 0, rv.reverse, Heap.get?_push_size _ rfl⟩
        | tuple xs =>
          cases hz
          obtain ⟨b, us, rfl, tb, rb⟩ := cx.tuple
          cases r1
          obtain ⟨its, rv, ht, hsz⟩ := I5.tuple tb.sq
          have hlen := rv.length
          show wpAny (model X.prog X.w) X.A (subscriptTail a (.Slice none none (some (.UnaryOp .USub (.Constant (.int 1) k p1) p2)) p3) (.ref b) (.ref s4.heap.objs.size)) (EP X pins σ Q) X.xe { s4 with heap := s4.heap.push { cls := .type "slice", data := .fields #[vl, vu, vs] } }
          refine tail_any (ops := [.ref b, .ref s4.heap.objs.size]) ht.typeIs (PyProof.Rows.slot_tuple_getitem.lookup) ?_ (by with_unfolding_all rfl)
          refine getItem_tuple_rev ht (Heap.IsSliceOf.new _ vl vu vs) pl pu ps ?_ (by rw [List.size_toArray]; omega)
          refine ⟨.ref _, _, I5.laid (t' := s4.toks) (o := .tup us.reverse) (fun b ob q => Heap.get?_push_of_some _ q) (Nat.le_refl _) ?_, rfl, qp.newT r' rb.reverse _ (I5.hok.fresh (Nat.le_refl _))⟩
          exact ⟨by rw [List.length_reverse]; exact hsz, its.reverse, rv.reverse, IsTup.new _ _⟩
        | _ => cases hz
      · cases e
    · cases e
end
end MP

namespace MP
open PySem PySem.Spec L2
open PyProof.Rows hiding St

/-! ### readings of statements, of targets -/
def fin (K : PySem.W.Frag) (D : Ends) (g : G) (H : Hp) : Fl → Prop
  | .nx ρ => ∀ σ, SR K H g ρ σ → D.nx σ H
  | .bk ρ => ∀ σ, SR K H g ρ σ → D.bk σ H
  | .ct ρ => ∀ σ, SR K H g ρ σ → D.ct σ H
  | .rt w => ∀ v, VR K H g w v → D.rt v H
def tS (K : PySem.W.Frag) (c : Cs) : TS := fun D σ H => ∃ g ρ f h', SR K H g ρ σ ∧ HR K H g ∧ c ρ g.h = some (f, h') ∧ ∀ g' H', g'.h = h' → Ext g H g' H' → HR K H' g' → fin K D g' H' f
/-- P: how the slots may be changed -/
structure Pk (P : L2.St → L2.St → Prop) : Prop where
  refl : ∀ σ, P σ σ
  trans : ∀ a b c, P a b → P b c → P a c
abbrev anyP : L2.St → L2.St → Prop := fun _ _ => True
theorem pk_any : Pk anyP := ⟨fun _ => trivial, fun _ _ _ _ _ => trivial⟩
def tG (K : PySem.W.Frag) (P : L2.St → L2.St → Prop) (c : Cg) : TG := fun v σ H Q => ∃ g ρ w ρ' h', SR K H g ρ σ ∧ HR K H g ∧ VR K H g w v ∧ c w ρ g.h = some (ρ', h') ∧ ∀ g' H' σ', g'.h = h' → Ext g H g' H' → HR K H' g' → SR K H' g' ρ' σ' → P σ σ' → Q σ' H'
def tGs (K : PySem.W.Frag) (P : L2.St → L2.St → Prop) (c : List Vl → Env' → Hm → Option (Env' × Hm)) : TGs := fun vs σ H Q => ∃ g ρ ws ρ' h', SR K H g ρ σ ∧ HR K H g ∧ VRs K H g ws vs ∧ c ws ρ g.h = some (ρ', h') ∧ ∀ g' H' σ', g'.h = h' → Ext g H g' H' → HR K H' g' → SR K H' g' ρ' σ' → P σ σ' → Q σ' H'
theorem _root_.L2.PGs.mpi {X : Cx} {e : List Expr} {t t' : TGs} (h : PGs X e t) (k : ∀ v σ H Q, t' v σ H Q → t v σ H Q) : PGs X e t' := ⟨fun pins s σ H v u Q I r q => h.run pins s σ H v u Q I r (k v σ H Q q)⟩
theorem fin.mono {K : PySem.W.Frag} {D D' : Ends} {g : G} {H : Hp} {f : Fl} (h : fin K D g H f) (n : ∀ σ, D.nx σ H → D'.nx σ H) (b : ∀ σ, D.bk σ H → D'.bk σ H) (c : ∀ σ, D.ct σ H → D'.ct σ H) (r : ∀ v, D.rt v H → D'.rt v H) : fin K D' g H f := by
  cases f with
  | nx ρ => exact fun σ s => n σ (h σ s)
  | bk ρ => exact fun σ s => b σ (h σ s)
  | ct ρ => exact fun σ s => c σ (h σ s)
  | rt w => exact fun v s => r v (h v s)

section
variable {X : Cx} {st : Stmt} {rest : List Stmt} {ca cb ce : Cm} {cs : Cms} {sa sb : Cs} {tc : Ct} {a b e : Expr} {pos : Pos}
theorem s_done : PSs X [] (tS X.K sNil) := pss_nil.mpi fun D σ H ⟨g, ρ, f, h', s, r, e, q⟩ => by
  cases e
  exact q g H rfl .refl r σ s
theorem s_seq (h1 : PS X st (tS X.K sa)) (h2 : PSs X rest (tS X.K sb)) : PSs X (st :: rest) (tS X.K (sCons sa sb)) := by
  refine (pss_cons h1 h2).mpi fun D σ H ⟨g, ρ, f, h', s, r, e, q⟩ => ?_
  unfold sCons at e
  cases e1 : sa ρ g.h with
  | none => rw [e1] at e; cases e
  | some p =>
    obtain ⟨f1, h1⟩ := p
    refine ⟨g, ρ, f1, h1, s, r, e1, fun g' H' eg x r' => ?_⟩
    rw [e1] at e
    cases f1 with
    | nx ρ' => exact fun σ' s' => ⟨g', ρ', f, h', s', r', by rw [eg]; exact e, fun g2 H2 eg2 x2 r2 => q g2 H2 eg2 (x.trans x2) r2⟩
    | bk ρ' => cases e; exact fun σ' s' => q g' H' eg x r' σ' s'
    | ct ρ' => cases e; exact fun σ' s' => q g' H' eg x r' σ' s'
    | rt w => cases e; exact fun v s' => q g' H' eg x r' v s'
theorem s_pass : PS X (.Pass pos) (tS X.K sNil) := ps_pass.mpi fun D σ H ⟨g, ρ, f, h', s, r, e, q⟩ => by
  cases e
  exact q g H rfl .refl r σ s
theorem s_doc {x j pos pos'} : PS X (.Expr (.Constant (.str x) j pos) pos') (tS X.K sNil) := ps_doc.mpi fun D σ H ⟨g, ρ, f, h', s, r, e, q⟩ => by
  cases e
  exact q g H rfl .refl r σ s
theorem s_break : PS X (.Break pos) (tS X.K sBrk) := ps_break.mpi fun D σ H ⟨g, ρ, f, h', s, r, e, q⟩ => by
  cases e
  exact q g H rfl .refl r σ s
theorem s_continue : PS X (.Continue pos) (tS X.K sCnt) := ps_continue.mpi fun D σ H ⟨g, ρ, f, h', s, r, e, q⟩ => by
  cases e
  exact q g H rfl .refl r σ s
theorem s_retN : PS X (.Return none pos) (tS X.K sRetN) := ps_retN.mpi fun D σ H ⟨g, ρ, f, h', s, r, e, q⟩ => by
  cases e
  exact q g H rfl .refl r _ (.d .non)
theorem s_ret (he : PE X e (tE X.K ce)) : PS X (.Return (some e) pos) (tS X.K (sRet ce)) := by
  refine (ps_ret he).mpi fun D σ H ⟨g, ρ, f, h', s, r, e, q⟩ => ?_
  unfold sRet at e
  split at e
  · cases e
  · rename_i w h1 e1
    cases e
    exact one s r e1 fun g' v H' eg x r' v1 => q g' H' eg x r' v v1
theorem s_ifS {p q : List Stmt} (hc : PT X e (tT X.K tc)) (ha : PSs X p (tS X.K sa)) (hb : PSs X q (tS X.K sb)) : PS X (.If e p q pos) (tS X.K (sIf tc sa sb)) := by
  refine (ps_if hc ha hb).mpi fun D σ H ⟨g, ρ, f, h', s, r, e, q⟩ => ?_
  unfold sIf at e
  split at e
  · cases e
  · rename_i h1 e1
    exact ⟨g, ρ, true, h1, s, r, e1, fun g' H' eg x r' => iteT ⟨g', ρ, f, h', s.mono x, r', by rw [eg]; exact e, fun g2 H2 eg2 x2 r2 => q g2 H2 eg2 (x.trans x2) r2⟩⟩
  · rename_i h1 e1
    exact ⟨g, ρ, false, h1, s, r, e1, fun g' H' eg x r' => iteF ⟨g', ρ, f, h', s.mono x, r', by rw [eg]; exact e, fun g2 H2 eg2 x2 r2 => q g2 H2 eg2 (x.trans x2) r2⟩⟩
theorem s_expr (he : PE X e (tE X.K ce)) (hs : swapsWith e none pos.line X.env = pure false) : PS X (.Expr e pos) (tS X.K (sDrop ce)) := by
  refine (ps_expr he hs).mpi fun D σ H ⟨g, ρ, f, h', s, r, e, q⟩ => ?_
  unfold sDrop at e
  split at e
  · cases e
  · rename_i w h1 e1
    cases e
    exact one s r e1 fun g' v H' eg x r' v1 => q g' H' eg x r' σ (s.mono x)

/-! ### while -/
theorem s_while {p : List Stmt} (hx : XOk X) (hc : PT X e (tT X.K tc)) (hb : PSs X p (tS X.K sb)) : PS X (.While e p [] pos) (tS X.K (sWhl tc sb)) := by
  have hp : PassesOwn (model X.prog X.w) X.A X.env X.xe := by rw [hx.xe]; exact .never
  refine (ps_while hp hc hb).mpi fun D σ H ⟨g0, ρ0, f, h', s, r, e, q⟩ => ?_
  refine ⟨fun n σ H => ∃ g ρ, SR X.K H g ρ σ ∧ HR X.K H g ∧ iterW tc sb n ρ g.h = some (f, h') ∧ ∀ g' H', g'.h = h' → Ext g H g' H' → HR X.K H' g' → fin X.K D g' H' f, ⟨lots, g0, ρ0, s, r, e, q⟩, ?_⟩
  rintro n σ H ⟨g, ρ, s, r, e, q⟩
  cases n with
  | zero => cases e
  | succ n =>
    unfold iterW at e
    split at e
    · cases e
    · rename_i h1 e1
      cases e
      exact ⟨g, ρ, false, h', s, r, e1, fun g' H' eg x r' => iteF (q g' H' eg x r' σ (s.mono x))⟩
    · rename_i h1 e1
      refine ⟨g, ρ, true, h1, s, r, e1, fun g1 H1 eg1 x1 r1 => iteT ?_⟩
      have next : ∀ (σ2 : L2.St) (H2 : Hp) (ρ2 : Env') (g2 : G), Ext g1 H1 g2 H2 → HR X.K H2 g2 → SR X.K H2 g2 ρ2 σ2 → iterW tc sb n ρ2 g2.h = some (f, h') → ∃ g ρ, SR X.K H2 g ρ σ2 ∧ HR X.K H2 g ∧ iterW tc sb n ρ g.h = some (f, h') ∧ ∀ g' H', g'.h = h' → Ext g H2 g' H' → HR X.K H' g' → fin X.K D g' H' f :=
        fun σ2 H2 ρ2 g2 x2 r2 s2 e2 => ⟨g2, ρ2, s2, r2, e2, fun g' H' eg' x' r' => q g' H' eg' ((x1.trans x2).trans x') r'⟩
      refine ⟨fun σ' H' => ∃ g ρ, SR X.K H' g ρ σ' ∧ HR X.K H' g ∧ iterW tc sb n ρ g.h = some (f, h') ∧ ∀ g' H'', g'.h = h' → Ext g H' g' H'' → HR X.K H'' g' → fin X.K D g' H'' f, fun σ' H' w => ⟨n, Nat.lt_succ_self n, w⟩, ?_⟩
      split at e
      · cases e
      · rename_i ρ' h2 e2
        exact ⟨g1, ρ, .nx ρ', h2, s.mono x1, r1, by rw [eg1]; exact e2, fun g2 H2 eg2 x2 r2 σ2 s2 => next σ2 H2 ρ' g2 x2 r2 s2 (by rw [eg2]; exact e)⟩
      · rename_i ρ' h2 e2
        exact ⟨g1, ρ, .ct ρ', h2, s.mono x1, r1, by rw [eg1]; exact e2, fun g2 H2 eg2 x2 r2 σ2 s2 => next σ2 H2 ρ' g2 x2 r2 s2 (by rw [eg2]; exact e)⟩
      · rename_i ρ' h2 e2
        cases e
        exact ⟨g1, ρ, .bk ρ', h', s.mono x1, r1, by rw [eg1]; exact e2, fun g2 H2 eg2 x2 r2 σ2 s2 => q g2 H2 eg2 (x1.trans x2) r2 σ2 s2⟩
      · rename_i w h2 e2
        cases e
        exact ⟨g1, ρ, .rt w, h', s.mono x1, r1, by rw [eg1]; exact e2, fun g2 H2 eg2 x2 r2 v s2 => q g2 H2 eg2 (x1.trans x2) r2 v s2⟩

/-! ### targets -/
variable {cg : Cg} {cgs : List Vl → Env' → Hm → Option (Env' × Hm)} {tg : Expr} {tgs : List Expr}
variable {P : L2.St → L2.St → Prop}
theorem g_name {i : Nat} {x : Str} (hx : XOk X) (hi : X.N[i]? = some x) (hl : Loc X.env.scope x) (hf : X.fn x = true ∨ X.env.scope.names.lookup x = some .local) (hP : ∀ σ v, P σ (σ.set i v)) : PG X (.Name x pos) (tG X.K P (gNm i)) := by
  refine (pg_name hx.nd hi hl hf).mpi fun v σ H Q ⟨g, ρ, w, ρ', h', s, r, vw, e, q⟩ => ?_
  cases e
  exact q g H _ rfl .refl r (s.set vw i) (hP _ _)
theorem g_nil (pk : Pk P) : PGs X [] (tGs X.K P gsNil) := pgs_nil.mpi fun vs σ H Q ⟨g, ρ, ws, ρ', h', s, r, vw, e, q⟩ => by
  unfold gsNil at e
  split at e
  · cases e
    cases vw
    exact ⟨rfl, q g H σ rfl .refl r s (pk.refl _)⟩
  · cases e
theorem g_cons (pk : Pk P) (h1 : PG X tg (tG X.K P cg)) (h2 : PGs X tgs (tGs X.K P cgs)) (hs : isStar tg = false) : PGs X (tg :: tgs) (tGs X.K P (gsCons cg cgs)) := by
  have hs' : (assignEach (tg :: tgs) X.env).map (·.2) = assign tg X.env :: (assignEach tgs X.env).map (·.2) := by
    cases tg <;> first
      | rfl
      | cases hs
  refine (pgs_cons h1 h2 hs').mpi fun vs σ H Q ⟨g, ρ, ws, ρ', h', s, r, vw, e, q⟩ => ?_
  unfold gsCons at e
  split at e
  · cases e
  · rename_i w ws
    split at e
    · cases e
    · rename_i ρ1 h1 e1
      cases vw with
      | @cons _ _ v vs v1 v2 =>
        exact ⟨v, vs, rfl, g, ρ, w, ρ1, h1, s, r, v1, e1, fun g1 H1 σ1 eg1 x1 r1 s1 p1 => ⟨g1, ρ1, ws, ρ', h', s1, r1, v2.mono x1, by rw [eg1]; exact e, fun g2 H2 σ2 eg2 x2 r2 s2 p2 => q g2 H2 σ2 eg2 (x1.trans x2) r2 s2 (pk.trans _ _ _ p1 p2)⟩⟩
theorem assignEach_len : ∀ (es : List Expr) (env : Env), (assignEach es env).length = es.length
  | [], _ => rfl
  | e :: es, env => by
    cases e <;> exact congrArg Nat.succ (assignEach_len es env)
theorem assignEach_star : ∀ (es : List Expr) (env : Env), (es.any isStar) = false → (assignEach es env).findIdx? (·.1) = none
  | [], _, _ => rfl
  | e :: es, env, h => by
    rw [List.any_cons, Bool.or_eq_false_iff] at h
    have ih := assignEach_star es env h.2
    rw [List.findIdx?_eq_none_iff] at ih ⊢
    intro x hx
    cases e <;> first
      | (rcases List.mem_cons.mp (show x ∈ _ :: assignEach es env from hx) with hx | hx
         · subst hx; rfl
         · exact ih x hx)
      | cases h.1
theorem gs_len {w : List Vl} {ρ : Env'} {h : Hm} : ∀ {n : Nat}, cgs w ρ h ≠ none → True := fun _ => trivial
/-- how many values a list of targets takes -/
def Takes (n : Nat) (c : List Vl → Env' → Hm → Option (Env' × Hm)) : Prop := ∀ ws ρ h p, c ws ρ h = some p → ws.length = n
theorem takes_nil : Takes 0 gsNil := fun ws ρ h p e => by
  unfold gsNil at e
  split at e
  · rfl
  · cases e
theorem takes_cons {n : Nat} (t : Takes n cgs) : Takes (n + 1) (gsCons cg cgs) := fun ws ρ h p e => by
  unfold gsCons at e
  split at e
  · cases e
  · split at e
    · cases e
    · exact congrArg Nat.succ (t _ _ _ _ e)
theorem g_tup {k n : Nat} (hx : XOk X) (h : PGs X tgs (tGs X.K P cgs)) (t : Takes n cgs) (hn : tgs.length = n) (hs : tgs.any isStar = false) : PG X (.Tuple tgs k pos) (tG X.K P (gTp cgs)) := by
  refine (pg_tup hx.calm h ((assignEach_len _ _).trans hn) (assignEach_star _ _ hs)).mpi fun v σ H Q ⟨g, ρ, w, ρ', h', s, r, vw, e, q⟩ => ?_
  unfold gTp at e
  split at e
  · rename_i xs
    cases vw with
    | d vw =>
      cases vw with
      | tup ta ra =>
        have rs := VRs.ofD ra
        exact ⟨_, _, rfl, ta.sq, by rw [← rs.length]; exact t _ _ _ _ e, g, ρ, xs.map .d, ρ', h', s, r, rs, e, q⟩
  · cases e

/-! ### o[i] = v -/
/-- ours is rewritten at one place, by values -/
def SetS (K : PySem.W.Frag) : TSet := fun o i v H Q => ∃ g wo di w h', HR K H g ∧ VR K H g wo o ∧ DR K H g.own di i ∧ VR K H g w v ∧ putAt g.h wo di w = some h' ∧ ∀ g' H', g'.h = h' → Ext g H g' H' → HR K H' g' → Q H'
theorem put_cases {X : Cx} {H : Hp} {g : G} {wo w : Vl} {di : PyData} {o i v : V} {h' : Hm} (R : HR X.K H g) (vo : VR X.K H g wo o) (vi : DR X.K H g.own di i) (vw : VR X.K H g w v) (e : putAt g.h wo di w = some h') :
    (∃ p xs k j g', o = .ref p ∧ i = .int k ∧ H p = some (.lst xs) ∧ ixN xs.length k = some j ∧ g'.h = h' ∧ Ext g H g' (upd H p (.lst (xs.set j v))) ∧ HR X.K (upd H p (.lst (xs.set j v))) g') ∨
    (∃ p H' g', o = .ref p ∧ DPut H p i v H' ∧ g'.h = h' ∧ Ext g H g' H' ∧ HR X.K H' g') := by
  unfold putAt at e
  split at e
  · rename_i n
    cases vo with
    | @r _ a ha =>
      split at e
      · rename_i xs hn
        split at e
        · rename_i k
          split at e
          · rename_i j hj
            cases e
            cases vi
            obtain ⟨vs, hv, rv⟩ := R.obj n _ a hn ha
            have x := Ext.put (H := H) (o := O.lst (xs.set j w)) (u := .lst (vs.set j v)) hn rfl ha
            exact .inl ⟨a, vs, k, j, g.put n (.lst (xs.set j w)), rfl, rfl, hv, by rw [← rv.length]; exact hj, rfl, x, R.put hn rfl ha ⟨_, upd_same, (rv.mono x).set (vw.mono x) j⟩⟩
          · cases e
        · cases e
      · rename_i kvs hn
        split at e
        · rename_i k hk
          split at e
          · rename_i hl
            cases e
            obtain ⟨vs, hv, rv⟩ := R.obj n _ a hn ha
            have ei := keyOf_ok hk vi
            subst ei
            have x := Ext.put (H := H) (o := O.dic (putV kvs k w)) (u := .dK (putK vs k v)) hn rfl ha
            have hl' := okLen_le hl
            exact .inr ⟨a, _, g.put n (.dic (putV kvs k w)), rfl, DPut.k hv (by rw [← rv.length]; omega), rfl, x, R.put hn rfl ha ⟨_, upd_same, KRs.put (vw.mono x) k (rv.mono x)⟩⟩
          · cases e
        · cases e
      · rename_i kvs hn
        split at e
        · rename_i k hk
          split at e
          · rename_i hl
            cases e
            obtain ⟨vs, hv, rv⟩ := R.obj n _ a hn ha
            obtain ⟨b, rfl, hb⟩ := keyT_ok hk vi
            have x := Ext.put (H := H) (o := O.dit (putV kvs k w)) (u := .dT (putK vs k v)) hn rfl ha
            have hl' := okLen_le hl
            exact .inr ⟨a, _, g.put n (.dit (putV kvs k w)), rfl, DPut.t hv hb (by rw [← rv.length]; omega), rfl, x, R.put hn rfl ha ⟨_, upd_same, KRs.put (vw.mono x) k (rv.mono x)⟩⟩
          · cases e
        · cases e
      · cases e
  · cases e
theorem set_all (hx : XOk X) : PSet X (SetS X.K) := by
  intro pins s σ H o i v ov iv u Q I ro ri rv h
  obtain ⟨g, wo, di, w, h', R, vo, vi, vw, e, q⟩ := h
  have hu := hx.un
  rcases put_cases R vo vi vw e with ⟨p, xs, k, j, g', e1, e2, h1, h2, eg, x, r'⟩ | ⟨p, H', g', e1, h1, eg, x, r'⟩
  · exact set_list pins s σ H o i v ov iv u Q I ro ri rv ⟨p, xs, k, j, e1, e2, h1, h2, q g' _ eg x r'⟩
  · exact set_dict (by omega) pins s σ H o i v ov iv u Q I ro ri rv ⟨p, H', e1, h1, q g' _ eg x r'⟩
theorem assignSub_of {o i : Expr} (h : isSlice i = false) : ∀ v, assign (.Subscript o i pos) X.env v = (do
      let ov ← holding [v] (eval o X.env)
      let iv ← holding [v, ov] (eval i X.env)
      standAt pos
      holding [v, ov, iv] (setItem ov iv v)
      release [v, ov, iv] []) := by
  intro v
  cases i <;> first
    | rfl
    | cases h
theorem g_sub (pk : Pk P) (hx : XOk X) (ha : PE X a (tE X.K ca)) (hb : PE X b (tE X.K cb)) (hs : isSlice b = false) : PG X (.Subscript a b pos) (tG X.K P (gSb ca cb)) := by
  refine (pg_sub ha hb (set_all hx) (assignSub_of hs)).mpi fun v σ H Q ⟨g, ρ, w, ρ', h', s, r, vw, e, q⟩ => ?_
  unfold gSb at e
  split at e
  · cases e
  · rename_i x h1 e1
    split at e
    · rename_i y h2 e2
      split at e
      · rename_i h3 e3
        cases e
        refine two s r e1 e2 fun g' vo vi H' eg x' r' v1 v2 => ?_
        subst eg
        cases v2 with
        | d v2 => exact ⟨g', x, y, w, h', r', v1, v2, vw.mono x', e3, fun g2 H2 eg2 x2 r2 => q g2 H2 σ eg2 (x'.trans x2) r2 ((s.mono x').mono x2) (pk.refl _)⟩
      · cases e
    · cases e

/-! ### assignments -/
theorem s_asg (he : PE X e (tE X.K ce)) (hg : PG X tg (tG X.K anyP cg)) (hs : swapsWithSole [tg] e pos.line X.env = pure false) (hw : swappedStores [tg] e X.env = pure none) (h1 : isStar tg = false) : PS X (.Assign [tg] e pos) (tS X.K (sAsg cg ce)) := by
  have h1' : (assignEach [tg] X.env).map (·.2) = [assign tg X.env] := by
    cases tg <;> first
      | rfl
      | cases h1
  refine (ps_asg he hg hs hw h1').mpi fun D σ H ⟨g, ρ, f, h', s, r, e, q⟩ => ?_
  unfold sAsg at e
  split at e
  · cases e
  · rename_i w h1 e1
    split at e
    · cases e
    · rename_i ρ' h2 e2
      cases e
      exact one s r e1 fun g1 v H1 eg1 x1 r1 v1 => ⟨g1, ρ, w, ρ', h', s.mono x1, r1, v1, by rw [eg1]; exact e2, fun g2 H2 σ2 eg2 x2 r2 s2 _ => q g2 H2 eg2 (x1.trans x2) r2 σ2 s2⟩
/-- a tuple of targets, a tuple of values, really made -/
theorem s_parT {es : List Expr} {k k2 n : Nat} {p2 p3 : Pos} (hx : XOk X) (he : PA X es (tAs X.K cs)) (hg : PGs X tgs (tGs X.K anyP cgs)) (t : Takes n cgs) (hn : tgs.length = n) (hz : n ≤ 1000) (hst : tgs.any isStar = false)
    (hw : swappedStores [.Tuple tgs k p2] (.Tuple es k2 p3) X.env = pure none) : PS X (.Assign [.Tuple tgs k p2] (.Tuple es k2 p3) pos) (tS X.K (sPar cgs cs)) := by
  refine (ps_asg (pe_tup he) (pg_tup hx.calm hg ((assignEach_len _ _).trans hn) (assignEach_star _ _ hst)) rfl hw rfl).mpi fun D σ H ⟨g, ρ, f, h', s, r, e, q⟩ => ?_
  unfold sPar at e
  split at e
  · cases e
  · rename_i ws h1 e1
    split at e
    · cases e
    · rename_i ρ' h2 e2
      cases e
      refine ⟨g, ρ, ws, h1, s, r, e1, fun g1 vs H1 eg1 x1 r1 v1 => ?_⟩
      have hl : vs.length = n := by rw [← v1.length]; exact t _ _ _ _ e2
      refine ⟨by rw [hl, sizeLine_eq]; omega, fun p hp => ?_⟩
      have x2 := Ext.laid (g := g1) p (.tup vs) hp
      exact ⟨p, vs, rfl, .inl (.inl upd_same), hl, g1, ρ, ws, ρ', h', (s.mono x1).mono x2, r1.laid p _ hp, v1.mono x2, by rw [eg1]; exact e2, fun g2 H2 σ2 eg2 x3 r2 s2 _ => q g2 H2 eg2 ((x1.trans x2).trans x3) r2 σ2 s2⟩
theorem gs_two {i j : Nat} {ws : List Vl} {ρ : Env'} {h : Hm} {p : Env' × Hm} (e : gsCons (gNm i) (gsCons (gNm j) gsNil) ws ρ h = some p) : ∃ x y, ws = [x, y] ∧ p = ((ρ.set i (some x)).set j (some y), h) := by
  cases ws with
  | nil => cases e
  | cons x ws =>
    cases ws with
    | nil => cases e
    | cons y ws =>
      cases ws with
      | nil => cases e; exact ⟨x, y, rfl, rfl⟩
      | cons z ws => cases e
theorem gs_three {i j l : Nat} {ws : List Vl} {ρ : Env'} {h : Hm} {p : Env' × Hm} (e : gsCons (gNm i) (gsCons (gNm j) (gsCons (gNm l) gsNil)) ws ρ h = some p) : ∃ x y z, ws = [x, y, z] ∧ p = (((ρ.set i (some x)).set j (some y)).set l (some z), h) := by
  cases ws with
  | nil => cases e
  | cons x ws =>
    obtain ⟨y, z, rfl, e2⟩ := gs_two (show gsCons (gNm j) (gsCons (gNm l) gsNil) ws (ρ.set i (some x)) h = some p from e)
    exact ⟨x, y, z, rfl, e2⟩
theorem s_par2 {i j : Nat} {x y : Str} {a b : Expr} {px py pt : Pos} {kt k2 pt2} (hx : XOk X) (hi : X.N[i]? = some x) (hj : X.N[j]? = some y) (hij : i ≠ j)
    (hlx : X.env.scope.names.lookup x = some .local) (hly : X.env.scope.names.lookup y = some .local) (ha : PA X [a, b] (tAs X.K cs))
    (hw : swappedStores [.Tuple [.Name x px, .Name y py] kt pt] (.Tuple [a, b] k2 pt2) X.env = pure (some [x, y])) :
    PS X (.Assign [.Tuple [.Name x px, .Name y py] kt pt] (.Tuple [a, b] k2 pt2) pos) (tS X.K (sPar (gsCons (gNm i) (gsCons (gNm j) gsNil)) cs)) := by
  refine (ps_par hx.calm hx.nd hi hj hij hlx hly ha hw rfl).mpi fun D σ H ⟨g, ρ, f, h', s, r, e, q⟩ => ?_
  unfold sPar at e
  split at e
  · cases e
  · rename_i ws h1 e1
    split at e
    · cases e
    · rename_i ρ' h2 e2
      cases e
      obtain ⟨x, y, rfl, e3⟩ := gs_two e2
      cases e3
      refine ⟨g, ρ, _, h', s, r, e1, fun g1 vs H1 eg1 x1 r1 v1 => ?_⟩
      cases v1 with
      | cons va v1 =>
        cases v1 with
        | cons vb v1 =>
          cases v1
          exact ⟨_, _, rfl, q g1 H1 eg1 x1 r1 _ (((s.mono x1).set va i).set vb j)⟩
theorem s_par3 {i j l : Nat} {x y z : Str} {a b c : Expr} {px py pz pt : Pos} {kt k2 pt2} (hx : XOk X) (hi : X.N[i]? = some x) (hj : X.N[j]? = some y) (hl : X.N[l]? = some z) (hij : i ≠ j) (hil : i ≠ l) (hjl : j ≠ l)
    (hlx : X.env.scope.names.lookup x = some .local) (hly : X.env.scope.names.lookup y = some .local) (hlz : X.env.scope.names.lookup z = some .local) (ha : PA X [a, b, c] (tAs X.K cs))
    (hw : swappedStores [.Tuple [.Name x px, .Name y py, .Name z pz] kt pt] (.Tuple [a, b, c] k2 pt2) X.env = pure (some [x, y, z])) :
    PS X (.Assign [.Tuple [.Name x px, .Name y py, .Name z pz] kt pt] (.Tuple [a, b, c] k2 pt2) pos) (tS X.K (sPar (gsCons (gNm i) (gsCons (gNm j) (gsCons (gNm l) gsNil))) cs)) := by
  refine (ps_par3 hx.calm hx.nd hi hj hl hij hil hjl hlx hly hlz ha hw rfl).mpi fun D σ H ⟨g, ρ, f, h', s, r, e, q⟩ => ?_
  unfold sPar at e
  split at e
  · cases e
  · rename_i ws h1 e1
    split at e
    · cases e
    · rename_i ρ' h2 e2
      cases e
      obtain ⟨x, y, z, rfl, e3⟩ := gs_three e2
      cases e3
      refine ⟨g, ρ, _, h', s, r, e1, fun g1 vs H1 eg1 x1 r1 v1 => ?_⟩
      cases v1 with
      | cons va v1 =>
        cases v1 with
        | cons vb v1 =>
          cases v1 with
          | cons vc v1 =>
            cases v1
            exact ⟨_, _, _, rfl, q g1 H1 eg1 x1 r1 _ ((((s.mono x1).set va i).set vb j).set vc l)⟩
end
end MP

namespace MP
open PySem PySem.Spec L2
open PyProof.Rows hiding St

section
variable {X : Cx} {ca cb ce : Cm} {cs : Cms} {sa sb : Cs} {tc : Ct} {a b e : Expr} {pos : Pos}
/-! ### += -/
theorem augD_ok {o : BO} {x y z : PyData} (h : augD o x y = some z) : ∃ i j, x = .int i ∧ y = .int j ∧ ((o = .add ∧ z = .int (i + j)) ∨ (o = .sub ∧ z = .int (i - j))) := by
  unfold augD at h
  split at h
  · cases h; exact ⟨_, _, rfl, rfl, .inl ⟨rfl, rfl⟩⟩
  · cases h; exact ⟨_, _, rfl, rfl, .inr ⟨rfl, rfl⟩⟩
  · cases h
def AugS (o : BO) : TIp := fun x y H Q => ∃ i j, x = .int i ∧ y = .int j ∧ ((o = .add ∧ Q (.int (i + j)) H) ∨ (o = .sub ∧ Q (.int (i - j)) H))
theorem ip_all (o : BO) : PIp X o.py (AugS o) := by
  intro pins s σ H x y v u Q I r1 r2 h
  obtain ⟨i, j, e1, e2, h⟩ := h
  rcases h with ⟨rfl, q⟩ | ⟨rfl, q⟩
  · exact ip_add pins s σ H x y v u Q I r1 r2 ⟨i, j, e1, e2, q⟩
  · exact ip_sub pins s σ H x y v u Q I r1 r2 ⟨i, j, e1, e2, q⟩
theorem s_aug {i : Nat} {x : Str} {o : BO} {p2 : Pos} (hx : XOk X) (hi : X.N[i]? = some x) (hl : Loc X.env.scope x) (hf : X.fn x = true ∨ X.env.scope.names.lookup x = some .local) (he : PE X e (tE X.K ce)) : PS X (.AugAssign (.Name x p2) o.py e pos) (tS X.K (sAug i o ce)) := by
  refine (ps_aug hx.nd hi hl he (ip_all o) hf).mpi fun D σ H ⟨g, ρ, f, h', s, r, e, q⟩ => ?_
  unfold sAug at e
  split at e
  · rename_i dx hw
    split at e
    · rename_i dy h1 e1
      split at e
      · rename_i z hz
        cases e
        obtain ⟨v, h2, h3⟩ := s.2 i _ hw
        obtain ⟨ii, jj, rfl, rfl, hz2⟩ := augD_ok hz
        clear hz
        have hv : v = .int ii := by cases h3 with | d h3 => cases h3; rfl
        subst hv
        refine ⟨_, h2, one s r e1 fun g1 y H1 eg1 x1 r1 v1 => ?_⟩
        have hy : y = .int jj := by cases v1 with | d v1 => cases v1; rfl
        subst hy
        refine ⟨ii, jj, rfl, rfl, ?_⟩
        rcases hz2 with ⟨ho, rfl⟩ | ⟨ho, rfl⟩
        · exact .inl ⟨ho, q g1 H1 eg1 x1 r1 _ ((s.mono x1).set (.d (.int _)) i)⟩
        · exact .inr ⟨ho, q g1 H1 eg1 x1 r1 _ ((s.mono x1).set (.d (.int _)) i)⟩
      · cases e
    · cases e
  · cases e
/-- what stands at a place of ours, by values -/
def GetS (K : PySem.W.Frag) : V → V → Hp → VK → Prop := fun x y H Q => ∃ v, ((∃ p xs i, x = .ref p ∧ y = .int i ∧ SqL K H p xs ∧ L2.atI xs i = some v) ∨ ∃ p, x = .ref p ∧ DGet H p y (some v)) ∧ Q v H
theorem get_all (hx : XOk X) : PGet X (GetS X.K) := by
  intro pins s σ H x y v u Q I rx ry h
  obtain ⟨z, h, q⟩ := h
  have hu := hx.un
  rcases h with ⟨p, xs, i, rfl, rfl, hq, he⟩ | ⟨p, rfl, h1⟩
  · cases rx
    obtain ⟨t, rfl⟩ := ry
    obtain ⟨its, r, pl, hz⟩ := I.list hq
    obtain ⟨j, h1, h2, h3, h4, h5⟩ := atI_get he
    obtain ⟨w, ew, rw'⟩ := r.get h2
    have hl := r.length
    have hn := line63
    have fin : EP X pins σ Q w s := ⟨z, H, I, rw', q⟩
    by_cases h0 : 0 ≤ i
    · have hj : i.toNat = j := by
        rw [seqIndex_of h0 h5] at h1
        exact Option.some.inj h1
      exact wpAny_getItem_list pl.isList h0 (by omega) (by rw [hj]; simpa using ew) fin
    · have hj : (i + (its.toArray.size : Int)).toNat = j := by
        rw [seqIndex_neg (by omega) h4] at h1
        rw [List.size_toArray, ← hl]
        exact Option.some.inj h1
      exact wpAny_getItem_list_neg pl.isList (by omega) (by rw [List.size_toArray] <;> omega) (by omega) (by rw [hj]; simpa using ew) fin
  · obtain rfl : v = Value.ref p := rx
    exact d_getItem (by omega) I h1 ry fun w' s' I' rw' => ⟨z, H, I', rw', q⟩
/-- a place of ours -/
theorem rget {K : PySem.W.Frag} {H : Hp} {g : G} {n : Nat} {a : Addr} {dy : PyData} {w : Vl} {y : V} (R : HR K H g) (ha : g.φ[n]? = some a) (vy : DR K H g.own dy y) (e : ixV g.h (.r n) dy = some w) :
    ∃ v, VR K H g w v ∧ ((∃ p xs i, (V.ref a) = .ref p ∧ y = .int i ∧ SqL K H p xs ∧ L2.atI xs i = some v) ∨ ∃ p, (V.ref a) = .ref p ∧ DGet H p y (some v)) := by
  unfold ixV at e
  simp only at e
  split at e
  · rename_i xs ho
    split at e
    · rename_i i
      cases vy
      obtain ⟨vs, hv, rv⟩ := R.obj n _ a ho ha
      obtain ⟨v, e2, v2⟩ := rv.atI e
      exact ⟨v, v2, .inl ⟨a, vs, i, rfl, rfl, .inl (.inl hv), e2⟩⟩
    · cases e
  · rename_i kvs ho
    split at e
    · rename_i k hk
      obtain ⟨r, hg, hr⟩ := (dget_ok (R.obj n _ a ho ha) vy).1 kvs k rfl hk
      rcases hr with ⟨h1, _⟩ | ⟨w', v, h1, h2, h3⟩
      · rw [h1] at e; cases e
      · rw [h1] at e
        cases e
        subst h2
        exact ⟨v, h3, .inr ⟨a, rfl, hg⟩⟩
    · cases e
  · rename_i kvs ho
    split at e
    · rename_i k hk
      obtain ⟨r, hg, hr⟩ := (dget_ok (R.obj n _ a ho ha) vy).2 kvs k rfl hk
      rcases hr with ⟨h1, _⟩ | ⟨w', v, h1, h2, h3⟩
      · rw [h1] at e; cases e
      · rw [h1] at e
        cases e
        subst h2
        exact ⟨v, h3, .inr ⟨a, rfl, hg⟩⟩
    · cases e
  · cases e
theorem put_r {h : Hm} {x : Vl} {y : PyData} {w : Vl} {h' : Hm} (e : putAt h x y w = some h') : ∃ n, x = .r n := by
  cases x with
  | r n => exact ⟨n, rfl⟩
  | _ => cases e
theorem s_augS {o : BO} {p2 : Pos} (hx : XOk X) (ha : PE X a (tE X.K ca)) (hb : PE X b (tE X.K cb)) (he : PE X e (tE X.K ce)) (hs : isSlice b = false) : PS X (.AugAssign (.Subscript a b p2) o.py e pos) (tS X.K (sAugS ca cb o ce)) := by
  refine (ps_augS ha hb (get_all hx) he (ip_all o) (set_all hx) (augStore_of hs)).mpi fun D σ H ⟨g, ρ, f, h', s, r, e, q⟩ => ?_
  unfold sAugS at e
  split at e
  · cases e
  · rename_i x h1 e1
    split at e
    · rename_i y h2 e2
      split at e
      · rename_i du hu
        split at e
        · rename_i dv h4 e4
          split at e
          · rename_i z hz
            split at e
            · rename_i h5 e5
              cases e
              refine two s r e1 e2 fun g1 vo vi H1 eg1 x1 r1 v1 v2 => ?_
              subst eg1
              obtain ⟨ii, jj, rfl, rfl, hz2⟩ := augD_ok hz
              clear hz
              obtain ⟨n, rfl⟩ := put_r e5
              cases v2 with
              | d v2 =>
                cases v1 with
                | @r _ aa haa =>
                  obtain ⟨vv, vvr, c⟩ := rget r1 haa v2 hu
                  have hvv : vv = .int ii := by cases vvr with | d h3 => cases h3; rfl
                  subst hvv
                  refine ⟨.int ii, c, one (s.mono x1) r1 e4 fun g4 y4 H4 eg4 x4 r4 v4 => ?_⟩
                  have hy : y4 = .int jj := by cases v4 with | d v4 => cases v4; rfl
                  subst hy
                  refine ⟨ii, jj, rfl, rfl, ?_⟩
                  have done : ∀ k, z = .int k → SetS X.K (.ref aa) vi (.int k) H4 fun H6 => D.nx σ H6 := by
                    rintro k rfl
                    exact ⟨g4, .r n, y, .d (.int k), h', r4, (VR.r haa).mono x4, v2.mono x4.stays, .d (.int k), by rw [eg4]; exact e5, fun g6 H6 eg6 x6 r6 => q g6 H6 eg6 ((x1.trans x4).trans x6) r6 σ (((s.mono x1).mono x4).mono x6)⟩
                  rcases hz2 with ⟨ho, hz⟩ | ⟨ho, hz⟩
                  · exact .inl ⟨ho, done _ hz⟩
                  · exact .inr ⟨ho, done _ hz⟩
            · cases e
          · cases e
        · cases e
      · cases e
    · cases e

/-! ### methods of lists of ours -/
theorem fewOne {e : Expr} {cpos : Pos} (h : isStar e = false) : ((backTo cpos (starEach [e] X.env)).all (fun x => !x.1) && (backToKw cpos (keywordEach [] X.env)).all (fun x => x.1.isSome)
      && decide (([e] : List Expr).length + ([] : List Keyword).length + (if ([] : List Keyword).isEmpty then 0 else 1) < 30)) = true := by
  cases e <;> first
    | rfl
    | cases h
def isCallN : Expr → Bool
  | .Call .. => true
  | _ => false
section
variable {apos cpos : Pos}
theorem isLst_ok {K : PySem.W.Frag} {H : Hp} {g : G} {n : Nat} {a : Addr} (R : HR K H g) (ha : g.φ[n]? = some a) (h : isLst g.h n = true) : ∃ us, H a = some (.lst us) := by
  unfold isLst at h
  split at h
  · rename_i xs hn
    obtain ⟨us, hus, _⟩ := R.obj n _ a hn ha
    exact ⟨us, hus⟩
  · cases h
theorem s_app (ha : PE X a (tE X.K ca)) (he : PE X e (tE X.K ce)) (hs : isStar e = false) (hbase : attributeBase a "append" X.env (eval a X.env) = eval a X.env) (hline : (apos.endLine == cpos.line) = true) :
    PS X (.Expr (.Call (.Attribute a "append" apos) [e] [] cpos) pos) (tS X.K (sApp ca ce)) := by
  refine (ps_expr (pe_bm PySem.F.plainAttrs_list PySem.F.slot_list_append PySem.F.type_list_append mt_append ha (s_cons he s_nil (star_of hs)) hbase (fewOne hs) hline (star_of hs) rfl) rfl).mpi fun D σ H ⟨g, ρ, f, h', s, r, e, q⟩ => ?_
  unfold sApp at e
  split at e
  · rename_i n h1 e1
    split at e
    · rename_i hl1
      split at e
      · cases e
      · rename_i w h2 e2
        split at e
        · rename_i xs hn
          split at e
          · rename_i hl
            cases e
            refine one s r e1 fun g1 v H1 eg1 x1 r1 v1 => ?_
            subst eg1
            cases v1 with
            | @r _ aa haa =>
              obtain ⟨us, hus⟩ := isLst_ok r1 haa hl1
              refine ⟨.inl ⟨rfl, us, .inl (.inl hus)⟩, ?_⟩
              refine ⟨g1, ρ, [w], h2, s.mono x1, r1, by unfold cCons; simp only [e2]; rfl, fun g2 vs H2 eg2 x2 r2 v2 => ?_⟩
              subst eg2
              cases v2 with
              | @cons _ _ y _ vy v2 =>
                cases v2
                have haa2 : g2.φ[n]? = some aa := by cases (VR.r (K := X.K) haa).mono x2 with | r z => exact z
                obtain ⟨zs, hzs, rz⟩ := r2.obj n _ aa hn haa2
                have hl' := okLen_le hl
                have x3 := Ext.put (H := H2) (o := O.lst (xs ++ [w])) (u := .lst (zs ++ [y])) hn rfl haa2
                exact ⟨aa, zs, y, rfl, rfl, hzs, by rw [← rz.length]; omega, q (g2.put n (.lst (xs ++ [w]))) _ rfl ((x1.trans x2).trans x3) (r2.put hn rfl haa2 ⟨_, upd_same, (rz.mono x3).append (.cons (vy.mono x3) .nil)⟩) σ (((s.mono x1).mono x2).mono x3)⟩
          · cases e
        · cases e
    · cases e
  · cases e
theorem s_ext (ha : PE X a (tE X.K ca)) (he : PE X e (tE X.K ce)) (hs : isStar e = false) (hbase : attributeBase a "extend" X.env (eval a X.env) = eval a X.env) (hline : (apos.endLine == cpos.line) = true) :
    PS X (.Expr (.Call (.Attribute a "extend" apos) [e] [] cpos) pos) (tS X.K (sExt ca ce)) := by
  refine (ps_expr (pe_bm PySem.F.plainAttrs_list PySem.F.slot_list_extend PySem.F.type_list_extend mt_extend ha (s_cons he s_nil (star_of hs)) hbase (fewOne hs) hline (star_of hs) rfl) rfl).mpi fun D σ H ⟨g, ρ, f, h', s, r, e, q⟩ => ?_
  unfold sExt at e
  split at e
  · rename_i n h1 e1
    split at e
    · rename_i hl1
      split at e
      · cases e
      · rename_i w h2 e2
        split at e
        · rename_i xs ds hn hd
          split at e
          · rename_i hl
            cases e
            refine one s r e1 fun g1 v H1 eg1 x1 r1 v1 => ?_
            subst eg1
            cases v1 with
            | @r _ aa haa =>
              obtain ⟨us, hus⟩ := isLst_ok r1 haa hl1
              refine ⟨.inl ⟨rfl, us, .inl (.inl hus)⟩, ?_⟩
              refine ⟨g1, ρ, [w], h2, s.mono x1, r1, by unfold cCons; simp only [e2]; rfl, fun g2 vs H2 eg2 x2 r2 v2 => ?_⟩
              subst eg2
              cases v2 with
              | @cons _ _ y _ vy v2 =>
                cases v2
                have haa2 : g2.φ[n]? = some aa := by cases (VR.r (K := X.K) haa).mono x2 with | r z => exact z
                obtain ⟨zs, hzs, rz⟩ := r2.obj n _ aa hn haa2
                obtain ⟨b, ts, rfl, hts, rt⟩ := (cur_ok r2 vy hd).list
                have hl' := okLen_le hl
                have x3 := Ext.put (H := H2) (o := O.lst (xs ++ ds.map .d)) (u := .lst (zs ++ ts)) hn rfl haa2
                exact ⟨aa, b, zs, ts, rfl, rfl, hzs, hts, by rw [← rz.length, ← rt.length]; omega, q (g2.put n (.lst (xs ++ ds.map .d))) _ rfl ((x1.trans x2).trans x3) (r2.put hn rfl haa2 ⟨_, upd_same, (rz.mono x3).append (VRs.ofD (rt.mono x3.stays))⟩) σ (((s.mono x1).mono x2).mono x3)⟩
          · cases e
        · cases e
    · cases e
  · cases e
theorem s_pop (ha : PE X a (tE X.K ca)) (hbase : attributeBase a "pop" X.env (eval a X.env) = eval a X.env) (hline : (apos.endLine == cpos.line) = true) :
    PS X (.Expr (.Call (.Attribute a "pop" apos) [] [] cpos) pos) (tS X.K (sPop ca)) := by
  refine (ps_expr (pe_bm0 PySem.F.plainAttrs_list PySem.F.slot_list_pop PySem.F.type_list_pop mt_pop ha hbase hline) rfl).mpi fun D σ H ⟨g, ρ, f, h', s, r, e, q⟩ => ?_
  unfold sPop at e
  split at e
  · rename_i n h1 e1
    split at e
    · rename_i xs hn
      split at e
      · cases e
      · rename_i w ws
        cases e
        refine one s r e1 fun g1 v H1 eg1 x1 r1 v1 => ?_
        subst eg1
        cases v1 with
        | @r _ aa haa =>
          obtain ⟨zs, hzs, rz⟩ := r1.obj n _ aa hn haa
          have hlen : zs.length = ws.length + 1 := rz.length.symm
          have x3 := Ext.put (H := H1) (o := O.lst (w :: ws).dropLast) (u := .lst zs.dropLast) hn rfl haa
          exact ⟨.inl ⟨rfl, zs, .inl (.inl hzs)⟩, aa, zs, zs[zs.length - 1]'(by omega), rfl, rfl, hzs, List.getElem?_eq_getElem _, q (g1.put n (.lst (w :: ws).dropLast)) _ rfl (x1.trans x3) (r1.put hn rfl haa ⟨_, upd_same, (rz.mono x3).dropLast⟩) σ ((s.mono x1).mono x3)⟩
    · cases e
  · cases e
end
/-- let go, as data: nothing moves but the ghosts -/
structure Let (K : PySem.W.Frag) (H : Hp) (g g' : G) (h' : Hm) : Prop where
  h : g'.h = h'
  x : Ext g H g' H
  r : HR K H g'
theorem dzs_ok {K : PySem.W.Frag} {H : Hp} {f : Hm → Vl → Option (PyData × Hm)} (ih : ∀ {g : G} {w : Vl} {v : V} {d : PyData} {h' : Hm}, HR K H g → VR K H g w v → f g.h w = some (d, h') → ∃ g', Let K H g g' h' ∧ DR K H g'.own d v) :
    ∀ {ws : List Vl} {g : G} {vs : List V} {ds : List PyData} {h' : Hm}, HR K H g → VRs K H g ws vs → dzs f g.h ws = some (ds, h') → ∃ g', Let K H g g' h' ∧ DRs K H g'.own ds vs
  | [], g, _, ds, h', R, .nil, e => by cases e; exact ⟨g, ⟨rfl, .refl, R⟩, .nil⟩
  | w :: ws, g, _, ds, h', R, .cons h t, e => by
    unfold dzs at e
    split at e
    · cases e
    · rename_i d h1 e1
      split at e
      · cases e
      · rename_i ds' h2 e2
        cases e
        obtain ⟨g1, l1, d1⟩ := ih R h e1
        obtain ⟨g2, l2, d2⟩ := dzs_ok ih l1.r (t.mono l1.x) (by rw [l1.h]; exact e2)
        exact ⟨g2, ⟨l2.h, l1.x.trans l2.x, l2.r⟩, .cons (d1.mono l2.x.stays) d2⟩
theorem dz_ok {K : PySem.W.Frag} {H : Hp} : ∀ (k : Nat) {g : G} {w : Vl} {v : V} {d : PyData} {h' : Hm}, HR K H g → VR K H g w v → dz k g.h w = some (d, h') → ∃ g', Let K H g g' h' ∧ DR K H g'.own d v
  | 0, g, w, v, d, h', R, vr, e => by
    unfold dz at e
    split at e
    · cases e
      cases vr with
      | d vr => exact ⟨g, ⟨rfl, .refl, R⟩, vr⟩
    · cases e
  | k + 1, g, w, v, d, h', R, vr, e => by
    unfold dz at e
    split at e
    · cases e
      cases vr with
      | d vr => exact ⟨g, ⟨rfl, .refl, R⟩, vr⟩
    · cases e
    · rename_i n
      split at e
      · rename_i xs hn
        split at e
        · rename_i ds h2 e2
          cases e
          cases vr with
          | @r _ aa haa =>
            obtain ⟨zs, hzs, rz⟩ := R.obj n _ aa hn haa
            have x1 := Ext.gone (H := H) hn rfl
            have r1 := R.gone hn rfl
            have no1 := R.gone_own hn haa
            obtain ⟨g2, l2, d2⟩ := dzs_ok (fun {g w v d h'} => dz_ok k) r1 (rz.mono x1) e2
            refine ⟨g2, ⟨l2.h, x1.trans l2.x, l2.r⟩, .lst ⟨hzs, fun z => ?_⟩ d2⟩
            rcases l2.x.stays.own aa z with y | y
            · exact no1 y
            · rw [hzs] at y; cases y
        · cases e
      · cases e
section
variable {X : Cx} {e : Expr} {ce : Cm}
theorem s_frzE (h : PE X e (tE X.K ce)) : PE X e (tE X.K (cFrz ce)) := by
  refine h.mpi fun σ H Q ⟨g, ρ, w, h', s, r, e, q⟩ => ?_
  unfold cFrz at e
  split at e
  · cases e
  · rename_i w' h1 e1
    split at e
    · rename_i d h2 e2
      cases e
      refine one s r e1 fun g1 v H1 eg1 x1 r1 v1 => ?_
      subst eg1
      obtain ⟨g2, l2, d2⟩ := dz_ok 8 r1 v1 e2
      exact q g2 v H1 l2.h (x1.trans l2.x) l2.r (.d d2)
    · cases e
theorem frz_k {i : Nat} {ρ : Env'} {h : Hm} {p : Fl × Hm} (e : sFrz i ρ h = some p) : ∃ w d h1, ρ[i]? = some (some w) ∧ dz 8 h w = some (d, h1) ∧ p = (.nx (ρ.set i (some (.d d))), h1) := by
  unfold sFrz at e
  split at e
  · rename_i w hi
    split at e
    · rename_i d h1 hd
      cases e
      exact ⟨w, d, h1, hi, hd, rfl⟩
    · cases e
  · cases e
/-- from here on the object in slot i is data -/
theorem s_frz {rest : List Stmt} {c : Cs} {i : Nat} (h : PSs X rest (tS X.K c)) : PSs X rest (tS X.K (sCons (sFrz i) c)) := by
  refine h.mpi fun D σ H ⟨g, ρ, f, h', s, r, e, q⟩ => ?_
  unfold sCons at e
  cases hq : sFrz i ρ g.h with
  | none => rw [hq] at e; cases e
  | some p =>
    obtain ⟨w, d, h1, hi, hd, rfl⟩ := frz_k hq
    rw [hq] at e
    obtain ⟨v, hv, vr⟩ := s.2 i _ hi
    obtain ⟨g2, l2, d2⟩ := dz_ok 8 r vr hd
    refine ⟨g2, _, f, h', ?_, l2.r, by rw [l2.h]; exact e, fun g' H' eg x' r' => q g' H' eg (l2.x.trans x') r'⟩
    have := (s.mono l2.x).set (VR.d d2) i
    have es : σ.set i (some v) = σ := by
      obtain ⟨hl, he⟩ := List.getElem?_eq_some_iff.mp hv
      rw [← he]; exact List.set_getElem_self hl
    rw [es] at this
    exact this
end
end
end MP

namespace MP
open PySem PySem.Spec L2
open PyProof.Rows hiding St

/-! ### what is walked -/
structure Feeds (K : PySem.W.Frag) (g : G) (H : Hp) (J : It) (xs : List Vl) : Prop where
  step : ∀ i w, xs[i]? = some w → ∀ (g' : G) H', Stays H g.own H' g'.own → HR K H' g' → J.go i H' ∧ ∀ x H2, J.yld i H' x H2 → Ext g' H' g' H2 ∧ HR K H2 g' ∧ VR K H2 g' w x
  stop : ∀ (g' : G) H', Stays H g.own H' g'.own → HR K H' g' → J.stop xs.length H'
def tI (K : PySem.W.Frag) (c : Cms) : TI := fun σ H R => ∃ g ρ xs h', SR K H g ρ σ ∧ HR K H g ∧ c ρ g.h = some (xs, h') ∧ ∀ g' J H', g'.h = h' → Ext g H g' H' → HR K H' g' → Feeds K g' H' J xs → R J H'
section
variable {K : PySem.W.Frag} {g : G} {H : Hp}
theorem upTo_get : ∀ (n : Nat) (lo : Int) (i : Nat) (w : PyData), (upTo lo n)[i]? = some w → i < n ∧ w = .int (lo + i)
  | 0, _, _, _, e => by simp [upTo] at e
  | n + 1, lo, 0, w, e => by simp [upTo] at e; subst e; exact ⟨by omega, by simp⟩
  | n + 1, lo, i + 1, w, e => by
    obtain ⟨h1, h2⟩ := upTo_get n (lo + 1) i w (by simpa [upTo] using e)
    subst h2
    exact ⟨by omega, by congr 1; omega⟩
theorem upTo_len : ∀ (n : Nat) (lo : Int), (upTo lo n).length = n
  | 0, _ => rfl
  | n + 1, lo => congrArg Nat.succ (upTo_len n (lo + 1))
theorem stepTo_get (c : Int) : ∀ (n : Nat) (lo : Int) (i : Nat) (w : PyData), (stepTo lo c n)[i]? = some w → i < n ∧ w = .int (lo + (i : Nat) * c)
  | 0, _, _, _, e => by simp [stepTo] at e
  | n + 1, lo, 0, w, e => by simp [stepTo] at e; subst e; exact ⟨by omega, by simp⟩
  | n + 1, lo, i + 1, w, e => by
    obtain ⟨h1, h2⟩ := stepTo_get c n (lo + c) i w (by simpa [stepTo] using e)
    subst h2
    refine ⟨by omega, ?_⟩
    congr 1
    rw [Int.natCast_add, Int.add_mul]
    omega
theorem stepTo_len (c : Int) : ∀ (n : Nat) (lo : Int), (stepTo lo c n).length = n
  | 0, _ => rfl
  | n + 1, lo => congrArg Nat.succ (stepTo_len c n (lo + c))
theorem map_get {i : Nat} {w : Vl} {ds : List PyData} (e : (ds.map Vl.d)[i]? = some w) : ∃ d, ds[i]? = some d ∧ w = .d d := by
  rw [List.getElem?_map] at e
  obtain ⟨d, h1, h2⟩ := Option.map_eq_some_iff.mp e
  exact ⟨d, h1, h2.symm⟩
theorem feeds_r (lo : Int) (n : Nat) : Feeds K g H (Itr lo n) (rngL lo n) where
  step := fun i w e g' H' x r => by
    obtain ⟨d, h1, rfl⟩ := map_get e
    obtain ⟨h2, rfl⟩ := upTo_get n lo i d h1
    refine ⟨h2, fun v H2 y => ?_⟩
    obtain ⟨rfl, rfl⟩ := y
    exact ⟨.refl, r, .d (.int _)⟩
  stop := fun g' H' x r => by
    show n ≤ (rngL lo n).length
    unfold rngL
    rw [List.length_map, upTo_len]
    exact Nat.le_refl _
theorem feeds_c (lo c : Int) (n : Nat) : Feeds K g H (Itc lo c n) ((stepTo lo c n).map .d) where
  step := fun i w e g' H' x r => by
    obtain ⟨d, h1, rfl⟩ := map_get e
    obtain ⟨h2, rfl⟩ := stepTo_get c n lo i d h1
    refine ⟨h2, fun v H2 y => ?_⟩
    obtain ⟨rfl, rfl⟩ := y
    exact ⟨.refl, r, .d (.int _)⟩
  stop := fun g' H' x r => by
    show n ≤ ((stepTo lo c n).map Vl.d).length
    rw [List.length_map, stepTo_len]
    exact Nat.le_refl _
theorem feeds_l {a : Addr} {vs : List V} {ds : List PyData} (hl : LR H g.own a vs) (hd : DRs K H g.own ds vs) : Feeds K g H (Itl K a) (ds.map .d) where
  step := fun i w e g' H' x r => by
    obtain ⟨d, h1, rfl⟩ := map_get e
    obtain ⟨v, h2, dv⟩ := (hd.mono x).get h1
    have sq := (hl.mono x).sq (K := K)
    refine ⟨⟨vs, v, sq, h2⟩, fun u H2 y => ?_⟩
    obtain ⟨rfl, y⟩ := y
    have := y vs sq
    rw [h2] at this
    cases this
    exact ⟨.refl, r, .d dv⟩
  stop := fun g' H' x r => ⟨vs, (hl.mono x).sq, by rw [List.length_map, hd.length]; exact Nat.le_refl _⟩
theorem feeds_t {a : Addr} {vs : List V} {ds : List PyData} (hl : TR H g.own a vs) (hd : DRs K H g.own ds vs) : Feeds K g H (Itt K a) (ds.map .d) where
  step := fun i w e g' H' x r => by
    obtain ⟨d, h1, rfl⟩ := map_get e
    obtain ⟨v, h2, dv⟩ := (hd.mono x).get h1
    have sq := (hl.mono x).sq (K := K)
    refine ⟨⟨vs, v, sq, h2⟩, fun u H2 y => ?_⟩
    obtain ⟨rfl, y⟩ := y
    have := y vs sq
    rw [h2] at this
    cases this
    exact ⟨.refl, r, .d dv⟩
  stop := fun g' H' x r => ⟨vs, (hl.mono x).sq, by rw [List.length_map, hd.length]; exact Nat.le_refl _⟩
theorem zip2_get : ∀ (xs ys : List PyData) (i : Nat) (w : PyData), (zip2D xs ys)[i]? = some w → ∃ x y, xs[i]? = some x ∧ ys[i]? = some y ∧ w = .tuple [x, y]
  | [], _, _, _, e => by simp [zip2D] at e
  | _ :: _, [], _, _, e => by simp [zip2D] at e
  | x :: xs, y :: ys, 0, w, e => by simp [zip2D] at e; subst e; exact ⟨x, y, rfl, rfl, rfl⟩
  | x :: xs, y :: ys, i + 1, w, e => by
    obtain ⟨x', y', h1, h2, h3⟩ := zip2_get xs ys i w (by simpa [zip2D] using e)
    exact ⟨x', y', by simpa using h1, by simpa using h2, h3⟩
theorem zip2_len : ∀ (xs ys : List PyData), xs.length ≤ (zip2D xs ys).length ∨ ys.length ≤ (zip2D xs ys).length
  | [], _ => .inl (Nat.zero_le _)
  | _ :: _, [] => .inr (Nat.zero_le _)
  | x :: xs, y :: ys => (zip2_len xs ys).elim (fun h => .inl (Nat.succ_le_succ h)) fun h => .inr (Nat.succ_le_succ h)
theorem feeds_zl {a b : Addr} {vs us : List V} {ds es : List PyData} (hl : LR H g.own a vs) (hd : DRs K H g.own ds vs) (hl2 : LR H g.own b us) (hd2 : DRs K H g.own es us) : Feeds K g H (Itz K a b) ((zip2D ds es).map .d) where
  step := fun i w e g' H' x r => by
    obtain ⟨d, h1, rfl⟩ := map_get e
    obtain ⟨d1, d2, q1, q2, rfl⟩ := zip2_get ds es i d h1
    obtain ⟨v, h2, dv⟩ := (hd.mono x).get q1
    obtain ⟨v', h2', dv'⟩ := (hd2.mono x).get q2
    have sq := (hl.mono x).sq (K := K)
    have sq2 := (hl2.mono x).sq (K := K)
    refine ⟨⟨vs, us, v, v', sq, sq2, h2, h2'⟩, fun u H2 y => ?_⟩
    obtain ⟨T, z1, z2, rfl, hT, rfl, y1, y2⟩ := y
    have e1 := y1 vs sq
    rw [h2] at e1
    cases e1
    have e2 := y2 us sq2
    rw [h2'] at e2
    cases e2
    have x2 := Ext.laid (g := g') T (.tup [v, v']) hT
    exact ⟨x2, r.laid T _ hT, .d (.tup ⟨upd_same, r.new_own hT⟩ (.cons (dv.mono x2.stays) (.cons (dv'.mono x2.stays) .nil)))⟩
  stop := fun g' H' x r => ⟨vs, us, (hl.mono x).sq, (hl2.mono x).sq, by rw [List.length_map, ← hd.length, ← hd2.length]; exact zip2_len ds es⟩
theorem feeds_zt {a b : Addr} {vs us : List V} {ds es : List PyData} (hl : TR H g.own a vs) (hd : DRs K H g.own ds vs) (hl2 : TR H g.own b us) (hd2 : DRs K H g.own es us) : Feeds K g H (RZ.ItzT K a b) ((zip2D ds es).map .d) where
  step := fun i w e g' H' x r => by
    obtain ⟨d, h1, rfl⟩ := map_get e
    obtain ⟨d1, d2, q1, q2, rfl⟩ := zip2_get ds es i d h1
    obtain ⟨v, h2, dv⟩ := (hd.mono x).get q1
    obtain ⟨v', h2', dv'⟩ := (hd2.mono x).get q2
    have sq := (hl.mono x).sq (K := K)
    have sq2 := (hl2.mono x).sq (K := K)
    refine ⟨⟨vs, us, v, v', sq, sq2, h2, h2'⟩, fun u H2 y => ?_⟩
    obtain ⟨T, z1, z2, rfl, hT, rfl, y1, y2⟩ := y
    have e1 := y1 vs sq
    rw [h2] at e1
    cases e1
    have e2 := y2 us sq2
    rw [h2'] at e2
    cases e2
    have x2 := Ext.laid (g := g') T (.tup [v, v']) hT
    exact ⟨x2, r.laid T _ hT, .d (.tup ⟨upd_same, r.new_own hT⟩ (.cons (dv.mono x2.stays) (.cons (dv'.mono x2.stays) .nil)))⟩
  stop := fun g' H' x r => ⟨vs, us, (hl.mono x).sq, (hl2.mono x).sq, by rw [List.length_map, ← hd.length, ← hd2.length]; exact zip2_len ds es⟩
end
section
variable {X : Cx} {ca cb cc : Cm} {a b c tg : Expr} {pos p : Pos}
theorem starL {e : Expr} {es : List Expr} (h : isStar e = false) (hs : es.any isStar = false) : starEach (e :: es) X.env = (false, eval e X.env) :: starEach es X.env := star_of h
theorem starPl : ∀ (es : List Expr) (pos : Pos) (env : Env), es.any isStar = false → (backTo pos (starEach es env)).any (·.1) = false
  | [], _, _, _ => rfl
  | e :: es, pos, env, h => by
    rw [List.any_cons, Bool.or_eq_false_iff] at h
    have ih := starPl es pos env h.2
    cases e <;> first
      | exact ih
      | cases h.1
theorem sixty2_ok {i : Int} (h : sixty2 i = true) : -(2 ^ 62) ≤ i ∧ i < 2 ^ 62 := by
  unfold sixty2 at h
  rw [Bool.and_eq_true, decide_eq_true_eq, decide_eq_true_eq] at h
  exact h
/-- one value as an argument list -/
theorem asg1 {ca : Cm} {ρ : Env'} {h : Hm} {w : Vl} {h1 : Hm} (e : ca ρ h = some (w, h1)) : cCons ca cNil ρ h = some ([w], h1) := by
  unfold cCons
  rw [e]
  rfl
theorem asg2 {ca cb : Cm} {ρ : Env'} {h : Hm} {w u : Vl} {h1 h2 : Hm} (e : ca ρ h = some (w, h1)) (e2 : cb ρ h1 = some (u, h2)) : cCons ca (cCons cb cNil) ρ h = some ([w, u], h2) := by
  unfold cCons
  rw [e]
  simp only
  rw [e2]
  rfl
theorem asg3 {ca cb cc : Cm} {ρ : Env'} {h : Hm} {w u z : Vl} {h1 h2 h3 : Hm} (e : ca ρ h = some (w, h1)) (e2 : cb ρ h1 = some (u, h2)) (e3 : cc ρ h2 = some (z, h3)) : cCons ca (cCons cb (cCons cc cNil)) ρ h = some ([w, u, z], h3) := by
  unfold cCons
  rw [e]
  simp only
  rw [e2]
  simp only
  rw [e3]
  rfl
theorem VR.int {K : PySem.W.Frag} {H : Hp} {g : G} {i : Int} {v : V} (h : VR K H g (.d (.int i)) v) : v = .int i := by
  cases h with | d h => cases h; rfl
theorem i_r1 (hg : Gl X "range") (hm : X.mg "range" = none) (ha : PE X a (tE X.K ca)) (hs : isStar a = false) : PI X tg (.Call (.Name "range" p) [a] [] pos) (tI X.K (iR1 ca)) := by
  refine (pi_range1 hg hm (s_cons ha s_nil (star_of hs)) (star_of hs)).mpi fun σ H R ⟨g, ρ, xs, h', s, r, e, q⟩ => ?_
  unfold iR1 at e
  split at e
  · rename_i j h1 e1
    split at e
    · rename_i hj
      cases e
      obtain ⟨q1, q2⟩ := sixty2_ok hj
      refine ⟨g, ρ, _, _, s, r, asg1 e1, fun g' vs H' eg x r' v1 => ?_⟩
      cases v1 with
      | cons v1 v2 =>
        cases v2
        have := v1.int
        subst this
        exact ⟨j, rfl, q1, q2, q g' _ H' eg x r' (feeds_r 0 j.toNat)⟩
    · cases e
  · cases e
theorem i_r2 (hg : Gl X "range") (hm : X.mg "range" = none) (ha : PE X a (tE X.K ca)) (hb : PE X b (tE X.K cb)) (hs : isStar a = false) (hs2 : isStar b = false) : PI X tg (.Call (.Name "range" p) [a, b] [] pos) (tI X.K (iR2 ca cb)) := by
  have h2 : starEach [b] X.env = [(false, eval b X.env)] := star_of hs2
  refine (pi_range2 hg hm (s_cons ha (s_cons hb s_nil (star_of hs2)) (star_of hs)) (by rw [star_of hs, h2]) h2).mpi fun σ H R ⟨g, ρ, xs, h', s, r, e, q⟩ => ?_
  unfold iR2 at e
  split at e
  · rename_i i h1 e1
    split at e
    · rename_i j h2 e2
      split at e
      · rename_i hj
        cases e
        rw [Bool.and_eq_true] at hj
        obtain ⟨q1, q2⟩ := sixty2_ok hj.1
        obtain ⟨q3, q4⟩ := sixty2_ok hj.2
        refine ⟨g, ρ, _, _, s, r, asg2 e1 e2, fun g' vs H' eg x r' v1 => ?_⟩
        cases v1 with
        | cons v1 v2 =>
          cases v2 with
          | cons v2 v3 =>
            cases v3
            have := v1.int
            subst this
            have := v2.int
            subst this
            exact ⟨i, j, rfl, ⟨q1, q2, q3, q4⟩, q g' _ H' eg x r' (feeds_r i (j - i).toNat)⟩
      · cases e
    · cases e
  · cases e
theorem i_r3 (hg : Gl X "range") (hm : X.mg "range" = none) (ha : PE X a (tE X.K ca)) (hb : PE X b (tE X.K cb)) (hc : PE X c (tE X.K cc)) (hs : isStar a = false) (hs2 : isStar b = false) (hs3 : isStar c = false) : PI X tg (.Call (.Name "range" p) [a, b, c] [] pos) (tI X.K (iR3 ca cb cc)) := by
  refine (pi_range3 hg hm (s_cons ha (s_cons hb (s_cons hc s_nil (star_of hs3)) (star_of hs2)) (star_of hs)) (star_of hs) (starPl _ _ _ (by simp [hs2, hs3]))).mpi fun σ H R ⟨g, ρ, xs, h', s, r, e, q⟩ => ?_
  unfold iR3 at e
  split at e
  · rename_i i h1 e1
    split at e
    · rename_i j h2 e2
      split at e
      · rename_i k h3 e3
        split at e
        · rename_i hk
          cases e
          rw [Bool.and_eq_true, Bool.and_eq_true] at hk
          obtain ⟨k1, k2, k3⟩ := hk
          refine ⟨g, ρ, _, _, s, r, asg3 e1 e2 e3, fun g' vs H' eg x r' v1 => ?_⟩
          cases v1 with
          | cons v1 v2 =>
            cases v2 with
            | cons v2 v3 =>
              cases v3 with
              | cons v3 v4 =>
                cases v4
                have := v1.int
                subst this
                have := v2.int
                subst this
                have := v3.int
                subst this
                have k2 := Nat.le_of_ble_eq_true k2
                exact ⟨i, j, k, (Builtin.Range.rangeSize i j k).toNat, rfl, ⟨by simpa using k1, by omega, k3, rangeSize_toNat i j k⟩, q g' _ H' eg x r' (feeds_c i k _)⟩
        · cases e
      · cases e
    · cases e
  · cases e
/-- an iterator by two readings of which one holds -/
theorem pi_seq {l : Expr} {tl : TE} (hl : PE X l tl) : PI X tg l (fun σ H R => tl σ H fun x H1 => ∃ a, x = .ref a ∧ (((∃ xs, SqL X.K H1 a xs) ∧ R (Itl X.K a) H1) ∨ ((∃ xs, SqT X.K H1 a xs) ∧ R (Itt X.K a) H1))) := by
  refine ⟨fun pins s σ H R I h => ?_⟩
  refine thn (hl.run pins s σ H _ I h) fun v s1 ⟨x, H1, I1, r1, q1⟩ => ?_
  obtain ⟨a, e, q⟩ := q1
  subst e
  cases r1
  rcases q with ⟨⟨xs, hq⟩, q⟩ | ⟨⟨xs, hq⟩, q⟩
  · obtain ⟨its, rv, p, hz⟩ := I1.list hq
    refine wpAny_pyIter_list p.isList ?_
    refine ⟨s1.heap.objs.size, [s1.heap.objs.size], _, _, H1, rfl, I1.kept (t' := s1.toks) fun b o e => Heap.get?_push_of_some _ e, turn_list a _, ⟨_, Heap.get?_push_size _ rfl, rfl, rfl⟩, fun b hb => ?_, q⟩
    have e : b = s1.heap.objs.size := by simpa using hb
    subst e
    exact I1.fpOk (Nat.le_refl _) (I1.hok.fresh (Nat.le_refl _))
  · obtain ⟨its, rv, p, hz⟩ := I1.tuple hq
    refine wpAny_pyIter_tuple (show s1.heap.IsTuple a its.toArray from p) ?_
    refine ⟨s1.heap.objs.size, [s1.heap.objs.size], _, _, H1, rfl, I1.kept (t' := s1.toks) fun b o e => Heap.get?_push_of_some _ e, turn_tuple a _, ⟨_, Heap.get?_push_size _ rfl, rfl, rfl⟩, fun b hb => ?_, q⟩
    have e : b = s1.heap.objs.size := by simpa using hb
    subst e
    exact I1.fpOk (Nat.le_refl _) (I1.hok.fresh (Nat.le_refl _))
theorem i_sq (ha : PE X a (tE X.K ca)) : PI X tg a (tI X.K (iSq ca)) := by
  refine (pi_seq ha).mpi fun σ H R ⟨g, ρ, xs, h', s, r, e, q⟩ => ?_
  unfold iSq at e
  split at e
  · rename_i ds h1 e1
    cases e
    refine one s r e1 fun g' v H' eg x r' v1 => ?_
    cases v1 with
    | d v1 =>
      cases v1 with
      | lst hl t => exact ⟨_, rfl, .inl ⟨⟨_, hl.sq⟩, q g' _ H' eg x r' (feeds_l hl t)⟩⟩
  · rename_i ds h1 e1
    cases e
    refine one s r e1 fun g' v H' eg x r' v1 => ?_
    cases v1 with
    | d v1 =>
      cases v1 with
      | tup hl t => exact ⟨_, rfl, .inr ⟨⟨_, hl.sq⟩, q g' _ H' eg x r' (feeds_t hl t)⟩⟩
  · cases e
theorem i_z2 {ts : List Expr} {kk : Nat} {tpos : Pos} (hg : Gl X "zip") (hm : X.mg "zip" = none) (ha : PE X a (tE X.K ca)) (hb : PE X b (tE X.K cb)) (hs : isStar a = false) (hs2 : isStar b = false) : PI X (.Tuple ts kk tpos) (.Call (.Name "zip" p) [a, b] [] pos) (tI X.K (iZ2 ca cb)) := by
  refine (RZ.pi_zipA hg hm (s_cons ha (s_cons hb s_nil (star_of hs2)) (star_of hs)) (star_of hs) (starPl _ _ _ (by simp [hs2]))).mpi fun σ H R ⟨g, ρ, xs, h', s, r, e, q⟩ => ?_
  unfold iZ2 at e
  split at e
  · rename_i dx h1 e1
    split at e
    · rename_i dy h2 e2
      split at e
      · rename_i zs hz
        cases e
        refine ⟨g, ρ, _, _, s, r, asg2 e1 e2, fun g' vs H' eg x r' v1 => ?_⟩
        cases v1 with
        | cons v1 v2 =>
          cases v2 with
          | cons v2 v3 =>
            cases v3
            unfold zipD at hz
            split at hz
            · cases hz
              cases v1 with
              | d v1 =>
                cases v2 with
                | d v2 =>
                  cases v1 with
                  | lst l1 t1 =>
                    cases v2 with
                    | lst l2 t2 => exact ⟨_, _, _, _, rfl, .inl ⟨l1.sq, l2.sq, q g' _ H' eg x r' (feeds_zl l1 t1 l2 t2)⟩⟩
            · cases hz
              cases v1 with
              | d v1 =>
                cases v2 with
                | d v2 =>
                  cases v1 with
                  | tup l1 t1 =>
                    cases v2 with
                    | tup l2 t2 => exact ⟨_, _, _, _, rfl, .inr ⟨l1.sq, l2.sq, q g' _ H' eg x r' (feeds_zt l1 t1 l2 t2)⟩⟩
            · cases hz
      · cases e
    · cases e
  · cases e
end
end MP

namespace MP
open PySem PySem.Spec L2
open PyProof.Rows hiding St

section
variable {X : Cx} {ca cb ce : Cm} {ci : Cms} {sa sb : Cs} {tc : Ct} {cg : Cg} {a b e tg iter elt : Expr} {pos : Pos}
theorem drop_cons {α : Type} {xs : List α} {i : Nat} {x : α} (h : xs[i]? = some x) : xs.drop i = x :: xs.drop (i + 1) := by
  obtain ⟨hl, he⟩ := List.getElem?_eq_some_iff.mp h
  rw [List.drop_eq_getElem_cons hl, he]
/-! ### for -/
theorem s_for {p : List Stmt} (hx : XOk X) (hi : PI X tg iter (tI X.K ci)) (hg : PG X tg (tG X.K anyP cg)) (hb : PSs X p (tS X.K sb)) (hs : ∀ x, foldedSetIterable iter X.env x = pure x) : PS X (.For tg iter p [] pos) (tS X.K (sFor cg ci sb)) := by
  have hp : PassesOwn (model X.prog X.w) X.A X.env X.xe := by rw [hx.xe]; exact .never
  refine (ps_for hp hx.calm hi hg hb hs).mpi fun D σ H ⟨g, ρ, f, h', s, r, e, q⟩ => ?_
  unfold sFor at e
  split at e
  · cases e
  · rename_i xs h1 e1
    refine ⟨g, ρ, xs, h1, s, r, e1, fun g0 J H0 eg0 x0 r0 F => ?_⟩
    refine ⟨fun i m σ H => m = xs.length - i ∧ i ≤ xs.length ∧ ∃ g ρ, SR X.K H g ρ σ ∧ HR X.K H g ∧ Ext g0 H0 g H ∧ iterF cg sb (xs.drop i) ρ g.h = some (f, h') ∧ ∀ g' H', g'.h = h' → Ext g H g' H' → HR X.K H' g' → fin X.K D g' H' f,
      ⟨xs.length, by simp, Nat.zero_le _, g0, ρ, s.mono x0, r0, .refl, by rw [eg0]; exact e, fun g' H' eg x r' => q g' H' eg (x0.trans x) r'⟩, ?_⟩
    rintro i m σ H ⟨rfl, hi, g, ρ, s, r, x, e, q⟩
    by_cases hlt : i < xs.length
    · obtain ⟨w, hw⟩ : ∃ w, xs[i]? = some w := ⟨_, List.getElem?_eq_getElem hlt⟩
      obtain ⟨go, yld⟩ := F.step i w hw g H x.stays r
      rw [drop_cons hw] at e
      refine .inr ⟨go, fun σ' H' => ∃ g ρ, SR X.K H' g ρ σ' ∧ HR X.K H' g ∧ Ext g0 H0 g H' ∧ iterF cg sb (xs.drop (i + 1)) ρ g.h = some (f, h') ∧ ∀ g' H'', g'.h = h' → Ext g H' g' H'' → HR X.K H'' g' → fin X.K D g' H'' f, fun σ' H' z => ⟨xs.length - (i + 1), by omega, rfl, hlt, z⟩, fun v H1 y => ?_⟩
      obtain ⟨x1, r1, v1⟩ := yld v H1 y
      unfold iterF at e
      split at e
      · cases e
      · rename_i ρ1 h2 e2
        refine ⟨g, ρ, w, ρ1, h2, s.mono x1, r1, v1, e2, fun g2 H2 σ2 eg2 x2 r2 s2 _ => ?_⟩
        have next : ∀ (σ3 : L2.St) (H3 : Hp) (ρ3 : Env') (g3 : G), Ext g2 H2 g3 H3 → HR X.K H3 g3 → SR X.K H3 g3 ρ3 σ3 → iterF cg sb (xs.drop (i + 1)) ρ3 g3.h = some (f, h') →
            ∃ g ρ, SR X.K H3 g ρ σ3 ∧ HR X.K H3 g ∧ Ext g0 H0 g H3 ∧ iterF cg sb (xs.drop (i + 1)) ρ g.h = some (f, h') ∧ ∀ g' H'', g'.h = h' → Ext g H3 g' H'' → HR X.K H'' g' → fin X.K D g' H'' f :=
          fun σ3 H3 ρ3 g3 x3 r3 s3 e3 => ⟨g3, ρ3, s3, r3, ((x.trans x1).trans x2).trans x3, e3, fun g' H' eg' x' r' => q g' H' eg' (((x1.trans x2).trans x3).trans x') r'⟩
        split at e
        · cases e
        · rename_i ρ' h3 e3
          exact ⟨g2, ρ1, .nx ρ', h3, s2, r2, by rw [eg2]; exact e3, fun g3 H3 eg3 x3 r3 σ3 s3 => next σ3 H3 ρ' g3 x3 r3 s3 (by rw [eg3]; exact e)⟩
        · rename_i ρ' h3 e3
          exact ⟨g2, ρ1, .ct ρ', h3, s2, r2, by rw [eg2]; exact e3, fun g3 H3 eg3 x3 r3 σ3 s3 => next σ3 H3 ρ' g3 x3 r3 s3 (by rw [eg3]; exact e)⟩
        · rename_i ρ' h3 e3
          cases e
          exact ⟨g2, ρ1, .bk ρ', h', s2, r2, by rw [eg2]; exact e3, fun g3 H3 eg3 x3 r3 σ3 s3 => q g3 H3 eg3 ((x1.trans x2).trans x3) r3 σ3 s3⟩
        · rename_i w h3 e3
          cases e
          exact ⟨g2, ρ1, .rt w, h', s2, r2, by rw [eg2]; exact e3, fun g3 H3 eg3 x3 r3 v s3 => q g3 H3 eg3 ((x1.trans x2).trans x3) r3 v s3⟩
    · have hi' : i = xs.length := by omega
      subst hi'
      refine .inl ⟨F.stop g H x.stays r, ?_⟩
      rw [List.drop_length] at e
      cases e
      exact q g H rfl .refl r σ s
end

/-! ### a thing of the walk's own, not seen by ours -/
def hid (H : Hp) (D : Addr) : Hp := fun b => if b = D then none else H b
def G.sh (g : G) (D : Addr) : G := ⟨fun a => g.Z a ∨ a = D, g.φ, g.h⟩
section
variable {K : PySem.W.Frag} {H H' : Hp} {g g' : G} {D : Addr} {u : HO}
theorem hid_same : hid H D D = none := by unfold hid; rw [if_pos rfl]
theorem hid_ne {a : Addr} (h : a ≠ D) : hid H D a = H a := by unfold hid; rw [if_neg h]
theorem hid_some {a : Addr} {o : HO} (h : hid H D a = some o) : a ≠ D ∧ H a = some o := by
  by_cases e : a = D
  · subst e; rw [hid_same] at h; cases h
  · exact ⟨e, by rw [hid_ne e] at h; exact h⟩
theorem hid_upd (h : H D = none) : hid (upd H D u) D = H := by
  funext a
  by_cases e : a = D
  · subst e; rw [hid_same, h]
  · rw [hid_ne e, upd_ne e]
theorem upd_hid (h : H D = some u) : upd (hid H D) D u = H := by
  funext a
  by_cases e : a = D
  · subst e; rw [upd_same, h]
  · rw [upd_ne e, hid_ne e]
/-- moved to another heap and other ghosts, by what stays -/
theorem VR.move (st : Stays H g.own H' g'.own) (p : ∃ ψ, g'.φ = g.φ ++ ψ) {x : Vl} {v : V} (h : VR K H g x v) : VR K H' g' x v := by
  cases h with
  | d h => exact .d (h.mono st)
  | r h =>
    obtain ⟨ψ, p⟩ := p
    refine .r ?_
    rw [p, List.getElem?_append_left (List.getElem?_eq_some_iff.mp h).1]
    exact h
  | s h => exact .s (h.mono st)
theorem VRs.move (st : Stays H g.own H' g'.own) (p : ∃ ψ, g'.φ = g.φ ++ ψ) : ∀ {xs : List Vl} {vs : List V}, VRs K H g xs vs → VRs K H' g' xs vs
  | _, _, .nil => .nil
  | _, _, .cons h t => .cons (h.move st p) (VRs.move st p t)
theorem KRs.move (st : Stays H g.own H' g'.own) (p : ∃ ψ, g'.φ = g.φ ++ ψ) {κ : Type} : ∀ {xs : List (κ × Vl)} {vs : List (κ × V)}, KRs K H g xs vs → KRs K H' g' xs vs
  | _, _, .nil => .nil
  | _, _, .cons h t => .cons (h.move st p) (KRs.move st p t)
theorem SR.move (st : Stays H g.own H' g'.own) (p : ∃ ψ, g'.φ = g.φ ++ ψ) {ρ : Env'} {σ : L2.St} (s : SR K H g ρ σ) : SR K H' g' ρ σ := ⟨s.1, fun i x h => by
  obtain ⟨v, h1, h2⟩ := s.2 i x h
  exact ⟨v, h1, h2.move st p⟩⟩
theorem OR.move (st : Stays H g.own H' g'.own) (p : ∃ ψ, g'.φ = g.φ ++ ψ) {a : Addr} (k : ∀ u, H a = Option.some u → H' a = Option.some u) : ∀ {o : O}, OR K H g a o → OR K H' g' a o
  | .lst _, ⟨vs, h, r⟩ => ⟨vs, k _ h, r.move st p⟩
  | .dic _, ⟨vs, h, r⟩ => ⟨vs, k _ h, r.move st p⟩
  | .dit _, ⟨vs, h, r⟩ => ⟨vs, k _ h, r.move st p⟩
  | .gone, ⟨u, h⟩ => ⟨u, k _ h⟩
theorem loc_sh {a : Addr} : (g.sh D).loc a ↔ g.loc a := Iff.rfl
/-- laid: seen by none -/
theorem stays_sh (h : H D = none) : Stays H g.own (upd H D u) (g.sh D).own := by
  refine ⟨fun a o _ e => by rw [upd_ne (ne_of_none e h)]; exact e, fun a z => ?_⟩
  rcases z with (z | z) | z
  · exact .inl (.inl z)
  · subst z; exact .inr h
  · exact .inl (.inr z)
theorem pre_sh : ∃ ψ, (g.sh D).φ = g.φ ++ ψ := ⟨[], by simp [G.sh]⟩
theorem HR.sh (R : HR K H g) (h : H D = none) : HR K (upd H D u) (g.sh D) := by
  refine ⟨R.len, R.inj, fun n o a h1 h2 => (R.obj n o a h1 h2).move (stays_sh h) pre_sh fun w e => by rw [upd_ne (ne_of_none e h)]; exact e, fun a z => ?_, fun a z => ?_⟩
  · rcases z with z | z
    · exact R.dis a z
    · subst z; exact R.newφ h
  · rcases z with z | z
    · obtain ⟨o, e⟩ := R.zs a z
      exact ⟨o, by rw [upd_ne (ne_of_none e h)]; exact e⟩
    · subst z; exact ⟨u, upd_same⟩
/-- back: g' came of g.sh D -/
def G.un (g' g : G) : G := ⟨g.Z, g'.φ, g'.h⟩
theorem stays_un (hz : g'.Z = (g.sh D).Z) : Stays H' g'.own (hid H' D) (g'.un g).own := by
  refine ⟨fun a o n e => ?_, fun a z => ?_⟩
  · have : a ≠ D := fun q => n (.inl (by rw [hz, q]; exact .inr rfl))
    rw [hid_ne this]; exact e
  · rcases z with z | z
    · exact .inl (.inl (by rw [hz]; exact .inl z))
    · exact .inl (.inr z)
theorem pre_un : ∃ ψ, (g'.un g).φ = g'.φ ++ ψ := ⟨[], by simp [G.un]⟩
theorem HR.un (R : HR K H' g') (hz : g'.Z = (g.sh D).Z) (nz : ¬ g.Z D) : HR K (hid H' D) (g'.un g) := by
  have nD : D ∉ g'.φ := R.dis D (by rw [hz]; exact .inr rfl)
  refine ⟨R.len, R.inj, fun n o a h1 h2 => (R.obj n o a h1 h2).move (stays_un hz) pre_un fun w e => ?_, fun a z => R.dis a (by rw [hz]; exact .inl z), fun a z => ?_⟩
  · have : a ≠ D := fun q => nD (by rw [← q]; exact List.mem_of_getElem? (show g'.φ[n]? = some a from h2))
    rw [hid_ne this]; exact e
  · obtain ⟨o, e⟩ := R.zs a (by rw [hz]; exact .inl z)
    by_cases q : a = D
    · subst q; exact absurd z nz
    · exact ⟨o, by rw [hid_ne q]; exact e⟩
theorem hid_upd2 : hid (upd H D u) D = hid H D := by
  funext a
  by_cases e : a = D
  · subst e; rw [hid_same, hid_same]
  · rw [hid_ne e, hid_ne e, upd_ne e]
theorem Stays.trans {ow ow' ow'' : Addr → Prop} {H'' : Hp} (s : Stays H ow H' ow') (t : Stays H' ow' H'' ow'') : Stays H ow H'' ow'' := by
  refine ⟨fun a o n e => t.keep a o (fun z => ?_) (s.keep a o n e), fun a z => ?_⟩
  · rcases s.own a z with y | y
    · exact n y
    · rw [e] at y; cases y
  · rcases t.own a z with y | y
    · exact s.own a y
    · by_cases n : ow a
      · exact .inl n
      · refine .inr ?_
        cases q : H a with
        | none => rfl
        | some o => rw [s.keep a o n q] at y; cases y
/-- all the way round -/
theorem Ext.un {g2 : G} {H2 : Hp} (hD : H D = none) (x : Ext (g.sh D) (upd H D u) g2 H2) : Ext g H (g2.un g) (hid H2 D) := by
  refine ⟨rfl, x.pre, fun a o n e => ?_, fun a l => ?_, fun a l => ?_⟩
  · have ne := ne_of_none e hD
    rw [hid_ne ne]
    exact x.keep a o n (by rw [upd_ne ne]; exact e)
  · rcases x.own a l with z | z
    · exact .inl z
    · refine .inr ?_
      by_cases q : a = D
      · rw [q]; exact hD
      · rw [upd_ne q] at z; exact z
  · rcases x.nw a l with z | z
    · exact .inl z
    · refine .inr ?_
      by_cases q : a = D
      · rw [q]; exact hD
      · rw [upd_ne q] at z; exact z
theorem Ext.un_at {g2 : G} {H2 : Hp} (R : HR K H g) (hD : H D = none) (x : Ext (g.sh D) (upd H D u) g2 H2) : H2 D = some u := x.keep D u (fun l => R.newφ hD (G.loc_mem (g := g) l)) upd_same
end

/-! ### comprehensions -/
section
variable {X : Cx} {ca cb ce : Cm} {ci : Cms} {tc : Ct} {cg : Cg} {a b e tg iter elt : Expr} {ifs : List Expr} {pos : Pos}
theorem wipe_set {σ : L2.St} {i : Nat} {v : Option V} {vs : List Nat} (h : i ∈ vs) : wipe (σ.set i v) vs = wipe σ vs := by
  induction vs with
  | nil => cases h
  | cons w vs ih =>
    unfold wipe
    by_cases e : i ∈ vs
    · rw [ih e]
    · rcases List.mem_cons.mp h with q | q
      · subst q
        have : ∀ (vs : List Nat), i ∉ vs → wipe (σ.set i v) vs = (wipe σ vs).set i v := by
          intro vs h
          induction vs with
          | nil => rfl
          | cons w vs ih =>
            unfold wipe
            rw [ih fun z => h (List.mem_cons_of_mem _ z), List.set_comm]
            exact fun q => h (by rw [q]; exact List.mem_cons_self)
        rw [this vs e, List.set_set]
      · exact absurd q e
theorem wipe_wipe {σ τ : L2.St} {vs : List Nat} (h : wipe σ vs = τ) : wipe τ vs = τ := by
  subst h
  refine List.ext_getElem? fun i => ?_
  by_cases hi : i ∈ vs
  · have n : ∀ (σ : L2.St) (x : V), (wipe σ vs)[i]? ≠ some (some x) := fun σ x q => (wipe_some q).2 hi
    have l : ∀ (σ : L2.St), i < σ.length → (wipe σ vs)[i]? = some none := fun σ hl => by
      have : i < (wipe σ vs).length := by rw [wipe_length]; exact hl
      cases q : (wipe σ vs)[i]? with
      | none => rw [List.getElem?_eq_none_iff] at q; omega
      | some y =>
        cases y with
        | none => rfl
        | some x => exact absurd q (n σ x)
    by_cases hl : i < σ.length
    · rw [l _ (by rw [wipe_length]; exact hl), l _ hl]
    · rw [List.getElem?_eq_none (by rw [wipe_length, wipe_length]; omega), List.getElem?_eq_none (by rw [wipe_length]; omega)]
  · exact wipe_out hi
def wipP (vs : List Nat) : L2.St → L2.St → Prop := fun a b => wipe b vs = wipe a vs
theorem pk_wip (vs : List Nat) : Pk (wipP vs) := ⟨fun _ => rfl, fun _ _ _ h1 h2 => h2.trans h1⟩
theorem SR.wipe {K : PySem.W.Frag} {H : Hp} {g : G} {ρ : Env'} {σ : L2.St} (s : SR K H g ρ σ) : ∀ vs : List Nat, SR K H g (wipeE ρ vs) (L2.wipe σ vs)
  | [] => s
  | v :: vs => by
    have ih := SR.wipe s vs
    unfold wipeE L2.wipe
    refine ⟨by rw [List.length_set, List.length_set]; exact ih.1, fun j y h => ?_⟩
    by_cases e : v = j
    · subst e
      by_cases hl : v < (wipeE ρ vs).length
      · rw [List.getElem?_set_self hl] at h; cases h
      · rw [List.getElem?_eq_none (by rw [List.length_set]; omega)] at h; cases h
    · rw [List.getElem?_set_ne e] at h
      obtain ⟨u, h1, h2⟩ := ih.2 j y h
      exact ⟨u, by rw [List.getElem?_set_ne e]; exact h1, h2⟩
/-- the list at D grows, behind what ours see -/
theorem lc_read {K : PySem.W.Frag} {own : List Nat} {σ : L2.St} {H : Hp} {Q : VK} (h : tF K (cComp own ce cg ci tc) σ H Q) : tLc (tI K ci) (tG K (wipP own) cg) (tT K tc) (tE K ce) own σ H Q := by
  obtain ⟨g, ρ, ws, h', s, r, e, q⟩ := h
  unfold cComp at e
  split at e
  · cases e
  · rename_i xs h1 e1
    split at e
    · rename_i hl
      have hl := okLen_le hl
      refine ⟨g, ρ, xs, h1, s, r, e1, fun g0 J H0 eg0 x0 r0 F D hD => ?_⟩
      refine ⟨fun i m H => m = xs.length - i ∧ i ≤ xs.length ∧ ∃ g acc done rest, HR K (hid H D) g ∧ Ext g0 H0 g (hid H D) ∧ H D = some (.lst acc) ∧ VRs K (hid H D) g done acc ∧ done.length ≤ i ∧
        compL cg tc ce (wipeE ρ own) (xs.drop i) g.h = some (rest, h') ∧ ws = done ++ rest,
        ⟨xs.length, by simp, Nat.zero_le _, g0, [], [], ws, by rw [hid_upd hD]; exact r0, by rw [hid_upd hD]; exact .refl, upd_same, .nil, Nat.zero_le _, by rw [eg0]; exact e, rfl⟩, ?_⟩
      rintro i m H1 ⟨rfl, hi, g1, acc, done, rest, r1, x1, hacc, v1, hd, e1, ew⟩
      have hU : upd (hid H1 D) D (.lst acc) = H1 := upd_hid hacc
      have hS : hid H1 D D = none := hid_same
      have st1 : Stays (hid H1 D) g1.own H1 (g1.sh D).own := by have := stays_sh (g := g1) (u := .lst acc) hS; rw [hU] at this; exact this
      have R1 : HR K H1 (g1.sh D) := by have := r1.sh (u := .lst acc) hS; rw [hU] at this; exact this
      have st0 := Stays.trans x1.stays st1
      have nz : ¬ g1.Z D := by rw [x1.z]; exact r0.newZ hD
      by_cases hlt : i < xs.length
      · obtain ⟨w, hw⟩ : ∃ w, xs[i]? = some w := ⟨_, List.getElem?_eq_getElem hlt⟩
        obtain ⟨go, yld⟩ := F.step i w hw (g1.sh D) H1 st0 R1
        rw [drop_cons hw] at e1
        refine .inr ⟨go, fun H => ∃ g acc done rest, HR K (hid H D) g ∧ Ext g0 H0 g (hid H D) ∧ H D = some (.lst acc) ∧ VRs K (hid H D) g done acc ∧ done.length ≤ i + 1 ∧ compL cg tc ce (wipeE ρ own) (xs.drop (i + 1)) g.h = some (rest, h') ∧ ws = done ++ rest,
          fun H' z => ⟨xs.length - (i + 1), by omega, rfl, hlt, z⟩, fun v H2 y => ?_⟩
        obtain ⟨x2, r2, v2⟩ := yld v H2 y
        have sw : SR K H1 (g1.sh D) (wipeE ρ own) (L2.wipe σ own) := ((s.mono x0).wipe own).move st0 x1.pre
        unfold compL at e1
        split at e1
        · cases e1
        · rename_i ρ1 h2 e2
          refine ⟨g1.sh D, wipeE ρ own, w, ρ1, h2, sw.mono x2, r2, v2, e2, fun g3 H3 σ3 eg3 x3 r3 s3 p3 => ⟨p3.trans (wipe_wipe rfl), ?_⟩⟩
          have back : ∀ {g4 : G} {H4 : Hp}, Ext g3 H3 g4 H4 → HR K H4 g4 → HR K (hid H4 D) (g4.un g1) ∧ Ext g0 H0 (g4.un g1) (hid H4 D) ∧ H4 D = some (.lst acc) ∧ VRs K (hid H4 D) (g4.un g1) done acc ∧ g4.Z = (g1.sh D).Z := fun {g4 H4} x4 r4 => by
            have xx : Ext (g1.sh D) (upd (hid H1 D) D (.lst acc)) g4 H4 := by rw [hU]; exact (x2.trans x3).trans x4
            have xu := Ext.un hS xx
            exact ⟨r4.un xx.z nz, x1.trans xu, Ext.un_at r1 hS xx, v1.mono xu, xx.z⟩
          split at e1
          · cases e1
          · rename_i h3 e3
            refine ⟨g3, ρ1, false, h3, s3, r3, by rw [eg3]; exact e3, fun g4 H4 eg4 x4 r4 => iteF ?_⟩
            obtain ⟨b1, b2, b3, b4, _⟩ := back x4 r4
            exact ⟨g4.un g1, acc, done, rest, b1, b2, b3, b4, by omega, by show compL cg tc ce (wipeE ρ own) (xs.drop (i + 1)) g4.h = _; rw [eg4]; exact e1, ew⟩
          · rename_i h3 e3
            refine ⟨g3, ρ1, true, h3, s3, r3, by rw [eg3]; exact e3, fun g4 H4 eg4 x4 r4 => iteT ?_⟩
            split at e1
            · cases e1
            · rename_i yv h4 e4
              split at e1
              · cases e1
              · rename_i ys h5 e5
                cases e1
                refine one (s3.mono x4) r4 (by rw [eg4]; exact e4) fun g5 yy H5 eg5 x5 r5 vy => ?_
                obtain ⟨b1, b2, b3, b4, b5⟩ := back (x4.trans x5) r5
                have vl := v1.length
                refine ⟨acc, b3, by omega, g5.un g1, acc ++ [yy], done ++ [yv], ys, ?_, ?_, upd_same, ?_, ?_, ?_, ?_⟩
                · rw [hid_upd2]; exact b1
                · rw [hid_upd2]; exact b2
                · rw [hid_upd2]; exact b4.append (.cons (vy.move (stays_un b5) pre_un) .nil)
                · rw [List.length_append]; show done.length + 1 ≤ _; omega
                · show compL cg tc ce (wipeE ρ own) (xs.drop (i + 1)) g5.h = _
                  rw [eg5]; exact e5
                · rw [ew]; simp
      · have hi' : i = xs.length := by omega
        subst hi'
        refine .inl ⟨F.stop (g1.sh D) H1 st0 R1, ?_⟩
        rw [List.drop_length] at e1
        cases e1
        rw [List.append_nil] at ew
        subst ew
        have := q g1 D acc (hid H1 D) rfl (x0.trans x1) r1 v1 hS
        rw [hU] at this
        exact this
    · cases e
theorem pts_nil' {Y : Cx} {K : PySem.W.Frag} : PTs Y [] (tT K cYes) := ⟨fun pins s σ H Q I ⟨g, ρ, b, h', s', r, e, q⟩ => by
  cases e
  exact pts_nil.run pins s σ H Q I (q g H rfl .refl r)⟩
theorem s_comp {scope : Scope} {own : List (Str × Nat)} (hx : XOk X) (hi : PI X tg iter (tI X.K ci)) (ok : BlkOk X.N X.env.scope scope own)
    (hg : ∀ (s : Shared) (H : Hp) (C : Addr) (cl : List (Str × Addr)) (fp : List Addr), PG (X.blk s H scope (compEnvC scope cl C X.env) fp) tg (tG X.K (wipP (own.map (·.2))) cg))
    (ht : ∀ (s : Shared) (H : Hp) (C : Addr) (cl : List (Str × Addr)) (fp : List Addr), PTs (X.blk s H scope (compEnvC scope cl C X.env) fp) ifs (tT X.K tc))
    (he : ∀ (s : Shared) (H : Hp) (C : Addr) (cl : List (Str × Addr)) (fp : List Addr), PE (X.blk s H scope (compEnvC scope cl C X.env) fp) elt (tE X.K ce)) (hs : ∀ x, foldedSetIterable iter X.env x = pure x) :
    PE X (.ListComp elt [⟨tg, iter, ifs, 0⟩] scope pos) (tF X.K (cComp (own.map (·.2)) ce cg ci tc)) :=
  (pe_lc hx.calm hx.nd hi ok hg ht he hs).mpi fun σ H Q h => lc_read h
/-- name = [..] on one line -/
theorem s_setLc {i : Nat} {y : Str} {py spos : Pos} {scope : Scope} {own : List (Str × Nat)} {fm : Bool} (hx : XOk X) (hy : X.N[i]? = some y) (hyl : X.env.scope.names.lookup y = some .local) (hl : (py.line == pos.line) = true)
    (ha : (scope.names.any fun (n, k) => n == y && (k == .local || k == .cell)) = false) (hi : PI X tg iter (tI X.K ci)) (ok : BlkOk X.N X.env.scope scope own)
    (hg : ∀ (s : Shared) (H : Hp) (C : Addr) (cl : List (Str × Addr)) (fp : List Addr), PG (X.blk s H scope (compEnvC scope cl C X.env) fp) tg (tG X.K (wipP (own.map (·.2))) cg))
    (ht : ∀ (s : Shared) (H : Hp) (C : Addr) (cl : List (Str × Addr)) (fp : List Addr), PTs (X.blk s H scope (compEnvC scope cl C X.env) fp) ifs (tT X.K tc))
    (he : ∀ (s : Shared) (H : Hp) (C : Addr) (cl : List (Str × Addr)) (fp : List Addr), PE (X.blk s H scope (compEnvC scope cl C X.env) fp) elt (tE X.K ce)) (hs : ∀ x, foldedSetIterable iter X.env x = pure x) :
    PS X (.Assign [.Name y py] (.ListComp elt [⟨tg, iter, ifs, 0⟩] scope pos) spos) (tS X.K (sAsg (gNm i) (cond fm (cFm (cComp (own.map (·.2)) ce cg ci tc)) (cFl (cComp (own.map (·.2)) ce cg ci tc))))) := by
  refine (ps_setLc hx.calm hx.nd hy hyl (sw_true hx.kind hyl hl ha) hi ok hg ht he hs).mpi fun D σ H ⟨g, ρ, f, h', s, r, e, q⟩ => ?_
  have pe : ∀ Q, tE X.K (cond fm (cFm (cComp (own.map (·.2)) ce cg ci tc)) (cFl (cComp (own.map (·.2)) ce cg ci tc))) σ H Q → tF X.K (cComp (own.map (·.2)) ce cg ci tc) σ H Q := by
    intro Q z
    cases fm with
    | true => exact fm_k z
    | false => exact fl_k z
  refine lc_read (pe _ ?_)
  unfold sAsg at e
  split at e
  · cases e
  · rename_i w h1 e1
    split at e
    · cases e
    · rename_i ρ' h2 e2
      cases e
      cases e2
      exact one s r e1 fun g1 v H1 eg1 x1 r1 v1 => q g1 H1 eg1 x1 r1 _ ((s.mono x1).set v1 i)
end
end MP

namespace MP
open PySem PySem.Spec L2
open PyProof.Rows hiding St

section
variable {X : Cx} {ca cb ce : Cm} {cs cf : Cms} {a b e : Expr} {es : List Expr} {pos p p2 : Pos}
/-! ### lists made of lists -/
theorem rep_k {ρ : Env'} {h : Hm} {q : List Vl × Hm} (e : cRep cf ce ρ h = some q) : ∃ xs h1 k h2, cf ρ h = some (xs, h1) ∧ ce ρ h1 = some (.d (.int k), h2) ∧ xs.length * k.toNat ≤ sizeLine ∧ -(2 ^ 63) ≤ k ∧ k < 2 ^ 63 ∧ q = ((List.replicate k.toNat xs).flatten, h2) := by
  unfold cRep at e
  split at e
  · cases e
  · rename_i xs h1 e1
    split at e
    · rename_i k h2 e2
      split at e
      · rename_i hk
        cases e
        rw [Bool.and_eq_true, Bool.and_eq_true, decide_eq_true_eq, decide_eq_true_eq] at hk
        exact ⟨xs, h1, k, h2, e1, e2, okLen_le hk.1, hk.2.1, hk.2.2, rfl⟩
      · cases e
    · cases e
theorem s_rep (hf : PE X a (tF X.K cf)) (he : PE X e (tE X.K ce)) : PE X (.BinOp a .Mult e pos) (tF X.K (cRep cf ce)) := by
  refine (pe_op op_rep hf he).mpi fun σ H Q ⟨g, ρ, ws, h', s, r, e, q⟩ => ?_
  obtain ⟨xs, h1, k, h2, e1, e2, k1, k2, k3, e3⟩ := rep_k e
  cases e3
  refine ⟨g, ρ, xs, h1, s, r, e1, fun g1 p vs H1 eg1 x1 r1 v1 hp => ?_⟩
  have x2 := Ext.laid (g := g1) p (.lst vs) hp
  have np : ¬ g1.own p := r1.new_own hp
  refine one ((s.mono x1).mono x2) (r1.laid p _ hp) (by rw [eg1]; exact e2) fun g3 y H3 eg3 x3 r3 v3 => ?_
  have hy := v3.int
  subst hy
  have vl := v1.length
  exact ⟨p, k, vs, rfl, rfl, x3.keep p _ (fun l => np (.inr l)) upd_same, k2, k3, by rw [← vl]; exact k1, fun p' hp' => q g3 p' _ H3 eg3 ((x1.trans x2).trans x3) r3 (VRs.rep ((v1.mono x2).mono x3) k.toNat) hp'⟩
theorem lof_k {ρ : Env'} {h : Hm} {q : List Vl × Hm} (e : cListOf ca ρ h = some q) : ∃ x h1 ds, ca ρ h = some (x, h1) ∧ (cur h1 x = some (.list ds) ∨ cur h1 x = some (.tuple ds)) ∧ q = (ds.map .d, h1) := by
  unfold cListOf at e
  split at e
  · cases e
  · rename_i x h1 e1
    split at e
    · rename_i ds hd
      cases e
      exact ⟨x, h1, ds, e1, .inl hd, rfl⟩
    · rename_i ds hd
      cases e
      exact ⟨x, h1, ds, e1, .inr hd, rfl⟩
    · cases e
theorem boot_list' : bootBuiltins "list" = some (.type "list") := boot_list
theorem s_lof (hg : Gl X "list") (hm : X.mg "list" = none) (ha : PE X a (tE X.K ca)) (hs : isStar a = false) : PE X (.Call (.Name "list" p) [a] [] pos) (tF X.K (cListOf ca)) := by
  refine (pe_callTy call_list_of hg hm boot_list' (s_cons ha s_nil (star_of hs)) (by decide) (by decide) (star_of hs) rfl).mpi fun σ H Q ⟨g, ρ, ws, h', s, r, e, q⟩ => ?_
  obtain ⟨x, h1, ds, e1, hd, e3⟩ := lof_k e
  cases e3
  refine ⟨g, ρ, [x], h', s, r, asg1 e1, fun g1 vs H1 eg1 x1 r1 v1 => ?_⟩
  subst eg1
  cases v1 with
  | cons v1 v2 =>
    cases v2
    rcases hd with hd | hd
    · obtain ⟨b, us, rfl, tb, rb⟩ := (cur_ok r1 v1 hd).list
      exact ⟨b, us, rfl, .inl (.inl (.inl tb)), fun l hl => q g1 l us H1 rfl x1 r1 (VRs.ofD rb) hl⟩
    · obtain ⟨b, us, rfl, tb, rb⟩ := (cur_ok r1 v1 hd).tuple
      exact ⟨b, us, rfl, .inr tb.sq, fun l hl => q g1 l us H1 rfl x1 r1 (VRs.ofD rb) hl⟩

/-! ### dicts -/
theorem s_dit : PE X (.Dict [] [] pos) (tE X.K cDit) := by
  refine pe_dnewT.mpi fun σ H Q ⟨g, ρ, w, h', s, r, e, q⟩ => ?_
  cases e
  intro p hp
  have x2 := Ext.push (o := O.dit []) (u := .dT []) r hp
  have r2 : HR X.K (upd H p (.dT [])) (g.push p (.dit [])) := r.push hp ⟨[], upd_same, .nil⟩
  refine q (g.push p (.dit [])) (.ref p) _ rfl x2 r2 (.r ?_)
  show (g.φ ++ [p])[g.h.length]? = some p
  rw [← r.len, List.getElem?_append_right (Nat.le_refl _)]
  simp
/-- keys of a display -/
def litKey : Expr → Option Key
  | .Constant (.str x) _ _ => some (.inr x)
  | .Constant (.int i) _ _ => some (.inl i)
  | _ => none
theorem pe_key {e : Expr} {k : Key} (h : litKey e = some k) : PE X e (tC (kV k)) := by
  unfold litKey at h
  split at h
  · cases h; exact pe_str
  · cases h; exact pe_int
  · cases h
/-- the pairs' readings -/
def trsOf (K : PySem.W.Frag) : List Key → List Cm → List (TE × TE)
  | k :: ks, c :: cs => (tC (kV k), tE K c) :: trsOf K ks cs
  | _, _ => []
def foldC : List Cm → Cms
  | [] => cNil
  | c :: cs => cCons c (foldC cs)
theorem pairs_read {K : PySem.W.Frag} : ∀ (ks : List Key) (cs : List Cm) {g : G} {ρ : Env'} {σ : L2.St} {H : Hp} {xs : List Vl} {h' : Hm} {Q : List (V × V) → Hp → Prop}, ks.length = cs.length → SR K H g ρ σ → HR K H g → foldC cs ρ g.h = some (xs, h') →
    (∀ g' vs H', g'.h = h' → Ext g H g' H' → HR K H' g' → VRs K H' g' xs vs → Q ((ks.zip vs).map fun kv => (kV kv.1, kv.2)) H') → tPairs (trsOf K ks cs) σ H Q
  | [], [], g, ρ, σ, H, xs, h', Q, _, s, r, e, q => by
    cases e
    exact q g [] H rfl .refl r .nil
  | k :: ks, c :: cs, g, ρ, σ, H, xs, h', Q, hl, s, r, e, q => by
    unfold foldC cCons at e
    split at e
    · cases e
    · rename_i x h1 e1
      split at e
      · cases e
      · rename_i ys h2 e2
        cases e
        refine one s r e1 fun g1 v H1 eg1 x1 r1 v1 => ?_
        refine pairs_read ks cs (by simpa using hl) (s.mono x1) r1 (by rw [eg1]; exact e2) fun g2 vs H2 eg2 x2 r2 v2 => ?_
        exact q g2 (v :: vs) H2 eg2 (x1.trans x2) r2 (.cons (v1.mono x2) v2)
  | [], _ :: _, _, _, _, _, _, _, _, hl, _, _, _, _ => by cases hl
  | _ :: _, [], _, _, _, _, _, _, _, hl, _, _, _, _ => by cases hl
theorem putK_new {kvs : List (Key × V)} {k : Key} {v : V} (h : ∀ kv ∈ kvs, kv.1 ≠ k) : putK kvs k v = kvs ++ [(k, v)] := by
  unfold putK
  rw [if_neg]
  intro z
  obtain ⟨kv, h1, h2⟩ := List.any_eq_true.mp z
  exact h kv h1 (by simpa using h2)
theorem merge_dist : ∀ (ks : List Key) (vs : List V) (pre : List (Key × V)), dist ks = true → (∀ kv ∈ pre, kv.1 ∉ ks) → mergeK pre (ks.zip vs) = pre ++ ks.zip vs
  | [], _, pre, _, _ => by simp [mergeK]
  | _ :: _, [], pre, _, _ => by simp [mergeK]
  | k :: ks, v :: vs, pre, hd, hp => by
    unfold dist at hd
    rw [Bool.and_eq_true, Bool.not_eq_true'] at hd
    have hd1 : k ∉ ks := fun z => by
      have : (ks.any fun j => decide (j = k)) = true := List.any_eq_true.mpr ⟨k, z, by simp⟩
      rw [this] at hd
      exact absurd hd.1 (by decide)
    show mergeK (putK pre k v) (ks.zip vs) = _
    rw [putK_new fun kv h z => hp kv h (by rw [z]; exact List.mem_cons_self)]
    rw [merge_dist ks vs _ hd.2 fun kv h => ?_]
    · simp
    · rcases List.mem_append.mp h with h | h
      · exact fun z => hp kv h (List.mem_cons_of_mem _ z)
      · have : kv = (k, v) := by simpa using h
        subst this
        exact hd1
theorem KRs.zip {K : PySem.W.Frag} {H : Hp} {g : G} : ∀ (ks : List Key) {xs : List Vl} {vs : List V}, VRs K H g xs vs → KRs K H g (ks.zip xs) (ks.zip vs)
  | [], _, _, _ => .nil
  | _ :: _, _, _, .nil => .nil
  | k :: ks, _, _, .cons h t => .cons h (KRs.zip ks t)
theorem s_dic {keys : List (Option Expr)} {values : List Expr} {ks : List Key} {cs : List Cm} (h : PPs X pos keys values (trsOf X.K ks cs)) (hall : keys.all (·.isSome) = true) (hl : keys.length = values.length) (h0 : keys ≠ []) (h15 : keys.length ≤ 15) (hkc : ks.length = cs.length) (hk15 : ks.length ≤ 15)
    (hd : dist ks = true) : PE X (.Dict keys values pos) (tE X.K (cDic ks (foldC cs))) := by
  refine (pe_disp h hall hl h0 h15).mpi fun σ H Q ⟨g, ρ, w, h', s, r, e, q⟩ p hp => ?_
  unfold cDic at e
  split at e
  · cases e
  · rename_i xs h1 e1
    cases e
    have st := stays_sh (g := g) (u := .dK []) hp
    refine pairs_read ks cs hkc (s.move st pre_sh) (r.sh hp) (show foldC cs ρ (g.sh p).h = some (xs, h1) from e1) fun g1 vs H1 eg1 x1 r1 v1 => ?_
    have nz := r.newZ hp
    have xu := Ext.un hp x1
    have ru : HR X.K (hid H1 p) (g1.un g) := r1.un x1.z nz
    have at1 := Ext.un_at r hp x1
    have vu : VRs X.K (hid H1 p) (g1.un g) xs vs := v1.move (stays_un x1.z) pre_un
    have hz : hid H1 p p = none := hid_same
    have x2 := Ext.push (o := O.dic (ks.zip xs)) (u := .dK (ks.zip vs)) ru hz
    have eU : upd (hid H1 p) p (.dK (ks.zip vs)) = upd H1 p (.dK (ks.zip vs)) := by
      funext a
      by_cases e : a = p
      · subst e; rw [upd_same, upd_same]
      · rw [upd_ne e, upd_ne e, hid_ne e]
    have r2 : HR X.K (upd (hid H1 p) p (.dK (ks.zip vs))) ((g1.un g).push p (.dic (ks.zip xs))) := ru.push hz ⟨ks.zip vs, upd_same, KRs.zip ks (vu.mono x2)⟩
    refine ⟨at1, ks.zip vs, rfl, by rw [List.length_zip]; omega, ?_⟩
    rw [merge_dist ks vs [] hd (fun _ h => by cases h), List.nil_append]
    have := q ((g1.un g).push p (.dic (ks.zip xs))) (.ref p) _ (by show g1.h ++ [_] = _; rw [eg1]) (xu.trans x2) r2 (.r (by
      show (g1.φ ++ [p])[h1.length]? = some p
      rw [← eg1, ← r1.len, List.getElem?_append_right (Nat.le_refl _)]
      simp))
    rw [eU] at this
    exact this
end
end MP

namespace MP
open PySem PySem.Spec L2
open PyProof.Rows hiding St

/-! ### data now: the script too -/
inductive CurW (K : PySem.W.Frag) (H : Hp) (ow : Addr → Prop) : PyData → V → Prop
  | c {x : PyData} {v : V} : CurR K H ow x v → CurW K H ow x v
  | s {a : Addr} {ns : List Int} : LS K H ow a (ns.map V.int) → CurW K H ow (.list (ns.map .int)) (.ref a)
inductive CurWs (K : PySem.W.Frag) (H : Hp) (ow : Addr → Prop) : List PyData → List V → Prop
  | nil : CurWs K H ow [] []
  | cons {x : PyData} {xs : List PyData} {v : V} {vs : List V} : CurW K H ow x v → CurWs K H ow xs vs → CurWs K H ow (x :: xs) (v :: vs)
section
variable {K : PySem.W.Frag} {H : Hp} {ow : Addr → Prop} {v : V}
theorem CurW.list {ds : List PyData} (h : CurW K H ow (.list ds) v) : ∃ a vs, v = .ref a ∧ SqL K H a vs ∧ DRs K H ow ds vs := by
  cases h with
  | c h =>
    obtain ⟨a, vs, e, h1, h2⟩ := h.list
    exact ⟨a, vs, e, .inl (.inl h1), h2⟩
  | s h => exact ⟨_, _, rfl, h.sq, DRs.ints _⟩
theorem CurW.tuple {ds : List PyData} (h : CurW K H ow (.tuple ds) v) : ∃ a vs, v = .ref a ∧ TR H ow a vs ∧ DRs K H ow ds vs := by
  cases h with
  | c h => exact h.tuple
theorem CurW.int {i : Int} (h : CurW K H ow (.int i) v) : v = .int i := by
  cases h with
  | c h => exact h.int
theorem CurW.bool {i : Bool} (h : CurW K H ow (.bool i) v) : v = .bl i := by
  cases h with
  | c h => exact h.bool
end
theorem curS_ok {K : PySem.W.Frag} {H : Hp} {g : G} {w : Vl} {v : V} {d : PyData} (R : HR K H g) (r : VR K H g w v) (e : curS g.h w = some d) : CurW K H g.own d v := by
  cases r with
  | s h => cases e; exact .s h
  | d h => exact .c (cur_ok R (.d h) e)
  | r h => exact .c (cur_ok R (.r h) e)
theorem curs_ok {K : PySem.W.Frag} {H : Hp} {g : G} (R : HR K H g) : ∀ {ws : List Vl} {vs : List V} {ds : List PyData}, VRs K H g ws vs → curs g.h ws = some ds → CurWs K H g.own ds vs
  | [], _, ds, .nil, e => by cases e; exact .nil
  | w :: ws, _, ds, .cons h t, e => by
    unfold curs at e
    split at e
    · rename_i d ds' h1 h2
      cases e
      exact .cons (curS_ok R h h1) (curs_ok R t h2)
    · cases e
/-- what a built-in function answers, by data -/
def PrimS (K : PySem.W.Frag) (p : PR) : List V → Hp → VK → Prop := fun vs H Q => ∃ g ds d, HR K H g ∧ CurWs K H g.own ds vs ∧ primD p ds = some d ∧ Post K H g d Q
theorem prim_read {K : PySem.W.Frag} {p : PR} {cs : Cms} {σ : L2.St} {H : Hp} {Q : VK} (h : tE K (cPrim p cs) σ H Q) : tAs K cs σ H fun vs H1 => PrimS K p vs H1 Q := by
  obtain ⟨g, ρ, w, h', s, r, e, q⟩ := h
  unfold cPrim at e
  split at e
  · cases e
  · rename_i xs h1 e1
    split at e
    · cases e
    · rename_i ds hd
      split at e
      · rename_i d hp
        cases e
        refine ⟨g, ρ, xs, h', s, r, e1, fun g1 vs H1 eg1 x1 r1 v1 => ?_⟩
        subst eg1
        exact ⟨g1, ds, d, r1, curs_ok r1 v1 hd, hp, Post.of rfl x1 q⟩
      · cases e
section
variable {K : PySem.W.Frag} {H : Hp} {ow : Addr → Prop}
theorem CurWs.one {d : PyData} {vs : List V} (h : CurWs K H ow [d] vs) : ∃ v, vs = [v] ∧ CurW K H ow d v := by
  cases h with
  | cons h t => cases t; exact ⟨_, rfl, h⟩
theorem CurWs.two {d e : PyData} {vs : List V} (h : CurWs K H ow [d, e] vs) : ∃ v u, vs = [v, u] ∧ CurW K H ow d v ∧ CurW K H ow e u := by
  cases h with
  | cons h t =>
    cases t with
    | cons h2 t => cases t; exact ⟨_, _, rfl, h, h2⟩
theorem DRs.intsD : ∀ {ds : List PyData} {vs : List V} {ns : List Int}, DRs K H ow ds vs → MP.intsD ds = some ns → vs = ns.map V.int
  | _, _, ns, .nil, e => by cases e; rfl
  | d :: ds, _, ns, .cons h t, e => by
    cases d with
    | int i =>
      obtain ⟨ns', e1, e2⟩ := Option.map_eq_some_iff.mp (show (MP.intsD ds).map (i :: ·) = some ns from e)
      subst e2
      cases h
      rw [DRs.intsD t e1]
      rfl
    | _ => cases e
theorem DRs.boolsD : ∀ {ds : List PyData} {vs : List V} {ns : List Bool}, DRs K H ow ds vs → MP.boolsD ds = some ns → vs = ns.map V.bl
  | _, _, ns, .nil, e => by cases e; rfl
  | d :: ds, _, ns, .cons h t, e => by
    cases d with
    | bool i =>
      obtain ⟨ns', e1, e2⟩ := Option.map_eq_some_iff.mp (show (MP.boolsD ds).map (i :: ·) = some ns from e)
      subst e2
      cases h
      rw [DRs.boolsD t e1]
      rfl
    | _ => cases e
end
section
variable {X : Cx}
/-- an int of the walk's own as the answer -/
theorem Post.int {K : PySem.W.Frag} {H : Hp} {g : G} {i : Int} {Q : VK} (q : Post K H g (.int i) Q) (R : HR K H g) : Q (.int i) H := q.here R (.int i)
theorem p_len : CallR X (.builtin "len") (PrimS X.K .len) := by
  intro pins s σ H xs us Q I rs ⟨g, ds, d, R, c, e, q⟩
  unfold primD at e
  split at e <;> try contradiction
  · cases e
    obtain ⟨v, rfl, c1⟩ := c.one
    obtain ⟨a, vs, rfl, h1, h2⟩ := c1.list
    exact call_len_seq pins s σ H _ us Q I rs ⟨a, vs, rfl, .inl h1, by rw [← h2.length]; exact q.int R⟩
  · cases e
    obtain ⟨v, rfl, c1⟩ := c.one
    obtain ⟨a, vs, rfl, h1, h2⟩ := c1.tuple
    exact call_len_seq pins s σ H _ us Q I rs ⟨a, vs, rfl, .inr h1.sq, by rw [← h2.length]; exact q.int R⟩
theorem p_abs : CallR X (.builtin "abs") (PrimS X.K .abs) := by
  intro pins s σ H xs us Q I rs ⟨g, ds, d, R, c, e, q⟩
  unfold primD at e
  split at e <;> try contradiction
  cases e
  obtain ⟨v, rfl, c1⟩ := c.one
  have := c1.int
  subst this
  exact call_abs pins s σ H _ us Q I rs ⟨_, rfl, q.int R⟩
theorem p_int : CallR X (.type "int") (PrimS X.K .int) := by
  intro pins s σ H xs us Q I rs ⟨g, ds, d, R, c, e, q⟩
  unfold primD at e
  split at e <;> try contradiction
  · cases e
    obtain ⟨v, rfl, c1⟩ := c.one
    have := c1.int
    subst this
    exact call_int1 pins s σ H _ us Q I rs (.inl ⟨_, rfl, q.int R⟩)
  · cases e
    obtain ⟨v, rfl, c1⟩ := c.one
    have := c1.bool
    subst this
    exact call_int1 pins s σ H _ us Q I rs (.inr ⟨_, rfl, q.int R⟩)
theorem p_max2 (hc : X.calm = true) : CallR X (.builtin "max") (PrimS X.K .max2) := by
  intro pins s σ H xs us Q I rs ⟨g, ds, d, R, c, e, q⟩
  unfold primD at e
  split at e <;> try contradiction
  cases e
  obtain ⟨v, u, rfl, c1, c2⟩ := c.two
  have := c1.int
  subst this
  have := c2.int
  subst this
  exact call_max2 hc pins s σ H _ us Q I rs ⟨_, _, rfl, q.int R⟩
theorem p_min2 (hc : X.calm = true) : CallR X (.builtin "min") (PrimS X.K .min2) := by
  intro pins s σ H xs us Q I rs ⟨g, ds, d, R, c, e, q⟩
  unfold primD at e
  split at e <;> try contradiction
  cases e
  obtain ⟨v, u, rfl, c1, c2⟩ := c.two
  have := c1.int
  subst this
  have := c2.int
  subst this
  exact call_min2 hc pins s σ H _ us Q I rs ⟨_, _, rfl, q.int R⟩
/-- sum of a tuple of ints -/
theorem sumT_raw {prog : Program} {w : World} {A : Around} {E : Value → Shared → Prop} {s : Shared} {l : Addr} {its : List Value} {ns : List Int} {Q : Value → Shared → Prop} (hh : A.handled = none) (hl : s.heap.IsTuple l its.toArray) (hi : IntsAre its ns)
    (h : ∀ h' tk t', (∀ b o, s.heap.get? b = some o → h'.get? b = some o) → Q (.int ns.sum t') { s with heap := h', toks := tk }) : wpAny (model prog w) A (call (.builtin "sum") [.ref l]) Q E s := by
  obtain ⟨xs, e⟩ := hi.allInts.items
  have hn : numsOf (intItems xs).toList = ns := by rw [← e]; exact hi.numsOf
  rw [nums_intItems] at hn
  rw [e] at hl
  refine PySem.W.ktm_sumG hh hl fun h' tk t' hk => ?_
  have := h h' tk t' hk
  rw [preSum_eq, List.take_of_length_le (by simp), hn]; exact this
theorem p_sum (hc : X.calm = true) : CallR X (.builtin "sum") (PrimS X.K .sum) := by
  intro pins s σ H xs us Q I rs ⟨g, ds, d, R, c, e, q⟩
  unfold primD at e
  split at e <;> try contradiction
  · obtain ⟨ns, e1, e2⟩ := Option.map_eq_some_iff.mp e
    subst e2
    obtain ⟨v, rfl, c1⟩ := c.one
    obtain ⟨a, vs, rfl, h1, h2⟩ := c1.list
    have := h2.intsD e1
    subst this
    exact cr_sum hc pins s σ H _ us Q I rs ⟨a, ns, rfl, h1, q.int R⟩
  · obtain ⟨ns, e1, e2⟩ := Option.map_eq_some_iff.mp e
    subst e2
    obtain ⟨v, rfl, c1⟩ := c.one
    obtain ⟨a, vs, rfl, h1, h2⟩ := c1.tuple
    have := h2.intsD e1
    subst this
    obtain ⟨its, rv, hl, _⟩ := I.tuple h1.sq
    rw [Vals.ref1 rs]
    exact sumT_raw (I.ok.hd hc) hl rv.ints fun h' tk t' hk => ⟨.int _, H, I.kept hk, ⟨_, rfl⟩, q.int R⟩
theorem p_tuple : CallR X (.type "tuple") (PrimS X.K .tuple) := by
  intro pins s σ H xs us Q I rs ⟨g, ds, d, R, c, e, q⟩
  unfold primD at e
  split at e <;> try contradiction
  · cases e
    obtain ⟨v, rfl, c1⟩ := c.one
    obtain ⟨a, vs, rfl, h1, h2⟩ := c1.list
    exact call_tuple_of pins s σ H _ us Q I rs ⟨a, vs, rfl, .inl ⟨h1, fun l hl => q.newT R h2 l hl⟩⟩
  · cases e
    obtain ⟨v, rfl, c1⟩ := c.one
    obtain ⟨a, vs, rfl, h1, h2⟩ := c1.tuple
    exact call_tuple_of pins s σ H _ us Q I rs ⟨a, vs, rfl, .inr ⟨h1.sq, q.here R (.tup h1 h2)⟩⟩
theorem p_list : CallR X (.type "list") (PrimS X.K .list) := by
  intro pins s σ H xs us Q I rs ⟨g, ds, d, R, c, e, q⟩
  unfold primD at e
  split at e <;> try contradiction
  · cases e
    obtain ⟨v, rfl, c1⟩ := c.one
    obtain ⟨a, vs, rfl, h1, h2⟩ := c1.list
    exact call_list_of pins s σ H _ us Q I rs ⟨a, vs, rfl, .inl h1, fun l hl => q.newL R h2 l hl⟩
  · cases e
    obtain ⟨v, rfl, c1⟩ := c.one
    obtain ⟨a, vs, rfl, h1, h2⟩ := c1.tuple
    exact call_list_of pins s σ H _ us Q I rs ⟨a, vs, rfl, .inr h1.sq, fun l hl => q.newL R h2 l hl⟩
theorem p_all (hc : X.calm = true) : CallR X (.builtin "all") (PrimS X.K .all) := by
  intro pins s σ H xs us Q I rs ⟨g, ds, d, R, c, e, q⟩
  unfold primD at e
  split at e <;> try contradiction
  obtain ⟨ns, e1, e2⟩ := Option.map_eq_some_iff.mp e
  subst e2
  obtain ⟨v, rfl, c1⟩ := c.one
  obtain ⟨a, vs, rfl, h1, h2⟩ := c1.list
  have := h2.boolsD e1
  subst this
  exact cr_all hc pins s σ H _ us Q I rs ⟨a, ns, rfl, h1, q.here R (.bl _)⟩
theorem p_any (hc : X.calm = true) : CallR X (.builtin "any") (PrimS X.K .any) := by
  intro pins s σ H xs us Q I rs ⟨g, ds, d, R, c, e, q⟩
  unfold primD at e
  split at e <;> try contradiction
  obtain ⟨ns, e1, e2⟩ := Option.map_eq_some_iff.mp e
  subst e2
  obtain ⟨v, rfl, c1⟩ := c.one
  obtain ⟨a, vs, rfl, h1, h2⟩ := c1.list
  have := h2.boolsD e1
  subst this
  exact cr_any hc pins s σ H _ us Q I rs ⟨a, ns, rfl, h1, q.here R (.bl _)⟩
/-- a call of a built-in function of data -/
theorem s_primB {id : String} {x : Str} {r : PR} {e : Expr} {es : List Expr} {cs : Cms} {p pos : Pos} (hc : CallR X (.builtin id) (PrimS X.K r)) (hg : Gl X x) (hm : X.mg x = none) (hv : bootBuiltins x = some (.builtin id)) (hn : x ≠ "__name__") (hdb : (x == ("__debug__" : Str)) = false)
    (ha : PA X (e :: es) (tAs X.K cs)) (hs : isStar e = false) (hs2 : es.any isStar = false) : PE X (.Call (.Name x p) (e :: es) [] pos) (tE X.K (cPrim r cs)) :=
  (pe_callB hc hg hm hv ha hn hdb (star_of hs) (starPl _ _ _ hs2)).mpi fun σ H Q h => prim_read h
theorem s_primT {id : String} {x : Str} {r : PR} {e : Expr} {es : List Expr} {cs : Cms} {p pos : Pos} (hc : CallR X (.type id) (PrimS X.K r)) (hg : Gl X x) (hm : X.mg x = none) (hv : bootBuiltins x = some (.type id)) (hn : x ≠ "__name__") (hdb : (x == ("__debug__" : Str)) = false)
    (ha : PA X (e :: es) (tAs X.K cs)) (hs : isStar e = false) (hs2 : es.any isStar = false) : PE X (.Call (.Name x p) (e :: es) [] pos) (tE X.K (cPrim r cs)) :=
  (pe_callTy hc hg hm hv ha hn hdb (star_of hs) (starPl _ _ _ hs2)).mpi fun σ H Q h => prim_read h

/-! ### isinstance -/
def tyName : PR → Option String
  | .isInt => some "int" | .isBool => some "bool" | .isTup => some "tuple" | .isStr => some "str" | .isList => some "list"
  | _ => none
def tagOf : PyData → String
  | .none => "NoneType" | .bool _ => "bool" | .int _ => "int" | .str _ => "str" | .list _ => "list" | .tuple _ => "tuple" | .dict _ => "dict"
def tabOf (u t : String) : Bool := u == t || (u == "bool" && t == "int")
theorem kitTab : (["NoneType", "bool", "int", "str", "list", "tuple"].all fun u => ["int", "bool", "tuple", "str", "list"].all fun t => decide (kitB u t = some (tabOf u t))) = true := by decide +kernel
theorem kit_tab {u t : String} (hu : u ∈ ["NoneType", "bool", "int", "str", "list", "tuple"]) (ht : t ∈ ["int", "bool", "tuple", "str", "list"]) : kitB u t = some (tabOf u t) := by
  have h := kitTab
  rw [List.all_eq_true] at h
  have h2 := h u hu
  rw [List.all_eq_true] at h2
  exact of_decide_eq_true (h2 t ht)
theorem ty_of {K : PySem.W.Frag} {H : Hp} {ow : Addr → Prop} {d : PyData} {v : V} (h : CurW K H ow d v) : TyX K H v (.type (tagOf d)) ∧ tagOf d ∈ ["NoneType", "bool", "int", "str", "list", "tuple"] := by
  cases h with
  | c h =>
    cases d with
    | none => have := h.none; subst this; exact ⟨.base .non, by simp [tagOf]⟩
    | bool b => have := h.bool; subst this; exact ⟨.base (.bl b), by simp [tagOf]⟩
    | int i => have := h.int; subst this; exact ⟨.base (.int i), by simp [tagOf]⟩
    | str x => have := h.str; subst this; exact ⟨.base (.str x), by simp [tagOf]⟩
    | list ds => obtain ⟨a, vs, rfl, h1, _⟩ := h.list; exact ⟨.base (.lst h1), by simp [tagOf]⟩
    | tuple ds => obtain ⟨a, vs, rfl, h1, _⟩ := h.tuple; exact ⟨.base (.tup h1.1), by simp [tagOf]⟩
    | dict kvs => cases h with | d h => cases h
  | s h =>
    refine ⟨?_, by simp [tagOf]⟩
    rcases h with ⟨h | ⟨o, h⟩, _⟩ | h
    · exact .base (.lst h)
    · exact .base (.frz h)
    · rcases h with h | ⟨o, its, n, h1, h2, _⟩
      · exact (noRd h).elim
      · exact .kList h1 h2
theorem isi_ok {r : PR} {t : String} (ht : tyName r = some t) {K : PySem.W.Frag} {H : Hp} {ow : Addr → Prop} {d : PyData} {v : V} (h : CurW K H ow d v) : ∃ u, TyX K H v u ∧ PySem.W.kitOne K u (.type t) = some (isOf r d) := by
  obtain ⟨h1, h2⟩ := ty_of h
  have ht2 : t ∈ ["int", "bool", "tuple", "str", "list"] := by
    cases r <;> first
      | (cases ht; simp)
      | cases ht
  have e : isOf r d = tabOf (tagOf d) t := by
    cases r <;> first
      | (exfalso; cases ht; done)
      | (cases ht; cases d <;> simp [isOf, tabOf, tagOf])
  exact ⟨_, h1, by rw [e]; exact kit_ty (kit_tab h2 ht2)⟩
theorem isi_prim {r : PR} {t : String} (ht : tyName r = some t) {ds : List PyData} {d : PyData} (e : primD r ds = some d) : ∃ x, ds = [x] ∧ d = .bool (isOf r x) := by
  cases r <;> first
    | (exfalso; cases ht; done)
    | (cases ds with
       | nil => exact absurd e (fun z => by cases z)
       | cons x t =>
         cases t with
         | nil => cases e; exact ⟨x, rfl, rfl⟩
         | cons y t => exact absurd e (fun z => by cases z))
theorem s_isi {r : PR} {t : String} {y : Str} {a : Expr} {ca : Cm} {p p2 pos : Pos} (ht : tyName r = some t) (hy : bootBuiltins y = some (.type t)) (hyn : y ≠ "__name__") (hyd : (y == ("__debug__" : Str)) = false) (hg2 : Gl X y) (hm2 : X.mg y = none) (hg : Gl X "isinstance") (hm : X.mg "isinstance" = none)
    (hv : bootBuiltins "isinstance" = some (.builtin "isinstance")) (ha : PE X a (tE X.K ca)) (hs : isStar a = false) : PE X (.Call (.Name "isinstance" p) [a, .Name y p2] [] pos) (tE X.K (cPrim r (cCons ca cNil))) := by
  have hb : PE X (.Name y p2) (tC (.ty t)) := pe_bltn hg2 hm2 hy rfl hyn hyd
  refine (pe_callB call_isi hg hm hv (pa_cons ha (pa_cons hb pa_nil (star_of rfl)) (star_of hs)) (by decide) (by decide) (star_of hs) (starPl _ _ _ rfl)).mpi fun σ H Q ⟨g, ρ, w, h', s, r, e, q⟩ => ?_
  unfold cPrim at e
  split at e
  · cases e
  · rename_i xs h1 e1
    split at e
    · cases e
    · rename_i ds hd
      split at e
      · rename_i d hp
        cases e
        unfold cCons at e1
        split at e1
        · cases e1
        · rename_i x h2 e2
          simp only [cNil] at e1
          cases e1
          obtain ⟨dx, rfl, rfl⟩ := isi_prim ht hp
          refine one s r e2 fun g1 v H1 eg1 x1 r1 v1 => ?_
          subst eg1
          have hc : CurW X.K H1 g1.own dx v := by
            obtain ⟨v', e3, c3⟩ := (curs_ok r1 (.cons v1 .nil) hd).one
            cases e3
            exact c3
          obtain ⟨u, h3, h4⟩ := isi_ok ht hc
          exact ⟨v, .ty t, u, .type t, _, rfl, .ty t, h3, h4, q g1 _ H1 rfl x1 r1 (.d (.bl _))⟩
      · cases e
end
end MP

namespace MP
open PySem PySem.Spec L2
open PyProof.Rows hiding St

theorem alikeOk_ok {ds : List PyData} (h : alikeOk ds = true) : SeqAt.shaped (.list ds) = true ∧ PySem.W.AlikeAll ds := by
  unfold alikeOk at h
  rw [Bool.and_eq_true, Bool.and_eq_true, List.all_eq_true, List.all_eq_true] at h
  refine ⟨shp64_ok h.1, fun x hx y hy => List.all_eq_true.mp (h.2.1 x hx) y hy, fun x hx e => ?_⟩
  have := h.2.2 x hx
  rw [e] at this
  cases this
section
variable {X : Cx}
/-- one of the items, by its data -/
theorem pick_item {H : Hp} {s : Shared} {ow : Addr → Prop} {ds : List PyData} {vs : List V} {its : List Value} {as : List Addr} {m : PyData} {i : Nat} {v : Value} {h' : Heap} {bs : List Addr} (hd : DRs X.K H ow ds vs) (rv : Vals vs its) (rs : ReadsAll s.heap its ds as)
    (hv : its[i]? = some v) (k : ∀ b o, s.heap.get? b = some o → h'.get? b = some o) (hm : m ∈ ds) (al : ∀ x ∈ ds, ∀ y ∈ ds, PySem.W.alike x y = true) (r : Reads h' v m bs) : ∃ u, RelV u v ∧ DR X.K H ow m u := by
  have hl : i < ds.length := by
    have h1 := rv.length
    have h2 := hd.length
    have h3 := (List.getElem?_eq_some_iff.mp hv).1
    omega
  obtain ⟨d, e1⟩ : ∃ d, ds[i]? = some d := ⟨_, List.getElem?_eq_getElem hl⟩
  obtain ⟨u, e2, du⟩ := hd.get e1
  obtain ⟨v', e3, rv'⟩ := rv.get e2
  rw [hv] at e3
  cases e3
  obtain ⟨cs, rd, _, _⟩ := PySem.W.readsAll_at rs i v hv
  have e4 : ds.getD i .none = d := by simp [List.getD, e1]
  rw [e4] at rd
  have := PySem.W.alike_unique m d v bs cs (al m hm d (List.mem_of_getElem? e1)) r (PySem.W.reads_keeps k rd)
  subst this
  exact ⟨u, rv', du⟩
theorem minD_mem : ∀ (xs : List PyData) (x : PyData), PySem.W.minD x xs ∈ x :: xs
  | [], x => List.mem_cons_self
  | y :: xs, x => by
    show PySem.W.minD (if PySem.W.dataLt y x = true then y else x) xs ∈ _
    have := minD_mem xs (if PySem.W.dataLt y x = true then y else x)
    rcases List.mem_cons.mp this with e | e
    · rw [e]; split <;> simp
    · exact List.mem_cons_of_mem _ (List.mem_cons_of_mem _ e)
theorem maxD_mem : ∀ (xs : List PyData) (x : PyData), PySem.W.maxD x xs ∈ x :: xs
  | [], x => List.mem_cons_self
  | y :: xs, x => by
    show PySem.W.maxD (if PySem.W.dataLt x y = true then y else x) xs ∈ _
    have := maxD_mem xs (if PySem.W.dataLt x y = true then y else x)
    rcases List.mem_cons.mp this with e | e
    · rw [e]; split <;> simp
    · exact List.mem_cons_of_mem _ (List.mem_cons_of_mem _ e)
theorem depth64 {ds : List PyData} (h : SeqAt.shaped (.list ds) = true) : PyData.depthAll ds ≤ 64 := by
  have h1 := SeqAt.depth_of_shaped h
  have h2 : (PyData.list ds).depth = PyData.depthAll ds + 1 := rfl
  omega
/-- max, min of a list, of a tuple -/
theorem p_max1 (hx : XOk X) : CallR X (.builtin "max") (PrimS X.K .max1) := by
  intro pins s σ H xs us Q I rs ⟨g, ds, d, R, c, e, q⟩
  have hu := hx.un
  unfold primD at e
  split at e <;> try contradiction
  · rename_i x xs _
    split at e
    · rename_i ha
      cases e
      obtain ⟨sh, al⟩ := alikeOk_ok ha
      obtain ⟨v, rfl, c1⟩ := c.one
      obtain ⟨a, vs, rfl, h1, h2⟩ := c1.list
      obtain ⟨its, rv, pl, _⟩ := I.list h1
      obtain ⟨as, rr⟩ := Dp.readsAll I _ _ its h2.dp rv
      rw [Vals.ref1 rs]
      refine PySem.W.max_list_data (I.ok.hd hx.calm) pl.isList (show ReadsAll s.heap its.toArray.toList (x :: xs) as from rr) al (by have := depth64 sh; omega) fun i u h' tk bs hv r k => ?_
      obtain ⟨w, rw', dw⟩ := pick_item h2 rv rr (by simpa using hv) k (maxD_mem xs x) al.1 r
      exact ⟨w, H, I.kept k, rw', q.here R dw⟩
    · cases e
  · rename_i x xs _
    split at e
    · rename_i ha
      cases e
      obtain ⟨sh, al⟩ := alikeOk_ok ha
      obtain ⟨v, rfl, c1⟩ := c.one
      obtain ⟨a, vs, rfl, h1, h2⟩ := c1.tuple
      obtain ⟨its, rv, pl, _⟩ := I.tuple h1.sq
      obtain ⟨as, rr⟩ := Dp.readsAll I _ _ its h2.dp rv
      rw [Vals.ref1 rs]
      refine PySem.W.max_tuple_data (I.ok.hd hx.calm) (show s.heap.IsTuple a its.toArray from pl) (show ReadsAll s.heap its.toArray.toList (x :: xs) as from rr) al (by have := depth64 sh; omega) fun i u h' tk bs hv r k => ?_
      obtain ⟨w, rw', dw⟩ := pick_item h2 rv rr (by simpa using hv) k (maxD_mem xs x) al.1 r
      exact ⟨w, H, I.kept k, rw', q.here R dw⟩
    · cases e
theorem p_min1 (hx : XOk X) : CallR X (.builtin "min") (PrimS X.K .min1) := by
  intro pins s σ H xs us Q I rs ⟨g, ds, d, R, c, e, q⟩
  have hu := hx.un
  unfold primD at e
  split at e <;> try contradiction
  · rename_i x xs _
    split at e
    · rename_i ha
      cases e
      obtain ⟨sh, al⟩ := alikeOk_ok ha
      obtain ⟨v, rfl, c1⟩ := c.one
      obtain ⟨a, vs, rfl, h1, h2⟩ := c1.list
      obtain ⟨its, rv, pl, _⟩ := I.list h1
      obtain ⟨as, rr⟩ := Dp.readsAll I _ _ its h2.dp rv
      rw [Vals.ref1 rs]
      refine PySem.W.min_list_data (I.ok.hd hx.calm) pl.isList (show ReadsAll s.heap its.toArray.toList (x :: xs) as from rr) al (by have := depth64 sh; omega) fun i u h' tk bs hv r k => ?_
      obtain ⟨w, rw', dw⟩ := pick_item h2 rv rr (by simpa using hv) k (minD_mem xs x) al.1 r
      exact ⟨w, H, I.kept k, rw', q.here R dw⟩
    · cases e
  · rename_i x xs _
    split at e
    · rename_i ha
      cases e
      obtain ⟨sh, al⟩ := alikeOk_ok ha
      obtain ⟨v, rfl, c1⟩ := c.one
      obtain ⟨a, vs, rfl, h1, h2⟩ := c1.tuple
      obtain ⟨its, rv, pl, _⟩ := I.tuple h1.sq
      obtain ⟨as, rr⟩ := Dp.readsAll I _ _ its h2.dp rv
      rw [Vals.ref1 rs]
      refine PySem.W.min_tuple_data (I.ok.hd hx.calm) (show s.heap.IsTuple a its.toArray from pl) (show ReadsAll s.heap its.toArray.toList (x :: xs) as from rr) al (by have := depth64 sh; omega) fun i u h' tk bs hv r k => ?_
      obtain ⟨w, rw', dw⟩ := pick_item h2 rv rr (by simpa using hv) k (minD_mem xs x) al.1 r
      exact ⟨w, H, I.kept k, rw', q.here R dw⟩
    · cases e

/-! ### list(range(..)) -/
theorem upTo_map (lo : Int) : ∀ n : Nat, upTo lo n = (List.range n).map fun i => PyData.int (lo + (i : Nat))
  | 0 => rfl
  | n + 1 => by
    rw [List.range_succ_eq_map, List.map_cons, List.map_map]
    show PyData.int lo :: upTo (lo + 1) n = _
    rw [upTo_map (lo + 1) n]
    congr 1
    · simp
    · refine List.map_congr_left fun i _ => ?_
      show PyData.int (lo + 1 + i) = PyData.int (lo + ((i + 1 : Nat) : Int))
      congr 1
      omega
theorem drs_upTo {K : PySem.W.Frag} {H : Hp} {ow : Addr → Prop} (a b : Int) : DRs K H ow (upTo a (b - a).toNat) (rgV a b) := by
  rw [upTo_map]
  unfold rgV
  generalize (b - a).toNat = n
  generalize List.range n = l
  induction l with
  | nil => exact .nil
  | cons i l ih => exact .cons (.int _) ih
variable {a b : Expr} {ca cb : Cm} {p p2 pos pos2 : Pos}
theorem rgOk_of {i j : Int} (h : (sixty2 i && (sixty2 j && okLen (j - i).toNat)) = true) : RgOk i j := by
  rw [Bool.and_eq_true, Bool.and_eq_true] at h
  obtain ⟨h1, h2⟩ := sixty2_ok h.1
  obtain ⟨h3, h4⟩ := sixty2_ok h.2.1
  have h5 := okLen_le h.2.2
  rw [sizeLine_eq] at h5
  exact ⟨h1, h2, h3, h4, by omega⟩
theorem prim_k {p : PR} {cs : Cms} {ρ : Env'} {h : Hm} {w : Vl} {h' : Hm} (e : cPrim p cs ρ h = some (w, h')) : ∃ xs ds d, cs ρ h = some (xs, h') ∧ curs h' xs = some ds ∧ primD p ds = some d ∧ w = .d d := by
  unfold cPrim at e
  split at e
  · cases e
  · rename_i xs h1 e1
    split at e
    · cases e
    · rename_i ds hd
      split at e
      · rename_i d hp
        cases e
        exact ⟨xs, ds, d, e1, hd, hp, rfl⟩
      · cases e
theorem arg1_k {ρ : Env'} {h : Hm} {xs : List Vl} {ds : List PyData} {h' : Hm} (e : cCons ca cNil ρ h = some (xs, h')) (hd : curs h' xs = some ds) : ∃ x d, ca ρ h = some (x, h') ∧ curS h' x = some d ∧ ds = [d] := by
  unfold cCons at e
  split at e
  · cases e
  · rename_i x h1 e1
    simp only [cNil] at e
    cases e
    unfold curs curs at hd
    split at hd
    · rename_i d ds' h1 h2
      cases h2
      cases hd
      exact ⟨x, d, e1, h1, rfl⟩
    · cases hd
theorem arg2_k {ρ : Env'} {h : Hm} {xs : List Vl} {ds : List PyData} {h' : Hm} (e : cCons ca (cCons cb cNil) ρ h = some (xs, h')) (hd : curs h' xs = some ds) : ∃ x h1 y d d', ca ρ h = some (x, h1) ∧ cb ρ h1 = some (y, h') ∧ curS h' x = some d ∧ curS h' y = some d' ∧ ds = [d, d'] := by
  unfold cCons at e
  split at e
  · cases e
  · rename_i x h1 e1
    split at e
    · cases e
    · rename_i ys h2 e2
      cases e
      split at e2
      · cases e2
      · rename_i y h3 e3
        simp only [cNil] at e2
        cases e2
        unfold curs curs curs at hd
        split at hd
        · rename_i d ds' q1 q2
          split at q2
          · rename_i d' ds'' q3 q4
            cases q4
            cases q2
            cases hd
            exact ⟨x, h1, y, d, d', e1, e3, q1, q3, rfl⟩
          · cases q2
        · cases hd
theorem curInt {K : PySem.W.Frag} {H : Hp} {g : G} {w : Vl} {v : V} {i : Int} (R : HR K H g) (r : VR K H g w v) (e : curS g.h w = some (.int i)) : v = .int i := (curS_ok R r e).int
theorem s_lrg1 (hx : XOk X) (hg : Gl X "list") (hm : X.mg "list" = none) (hg2 : Gl X "range") (hm2 : X.mg "range" = none) (ha : PE X a (tE X.K ca)) (hs : isStar a = false) :
    PE X (.Call (.Name "list" p) [.Call (.Name "range" p2) [a] [] pos2] [] pos) (tE X.K (cPrim .lrange1 (cCons ca cNil))) := by
  refine (pe_listRg hx.calm hg hm (prg_1 hg2 hm2 ha (star_of hs)) rfl).mpi fun σ H Q ⟨g, ρ, w, h', s, r, e, q⟩ => ?_
  obtain ⟨xs, ds, d, e1, e2, e3, rfl⟩ := prim_k e
  obtain ⟨x, dx, e4, e5, hds⟩ := arg1_k e1 e2
  unfold primD at e3
  split at e3 <;> try contradiction
  cases hds
  split at e3
  · rename_i hj
    cases e3
    refine one s r e4 fun g1 v H1 eg1 x1 r1 v1 => ?_
    subst eg1
    have := curInt r1 v1 e5
    subst this
    refine ⟨_, rfl, rgOk_of (by rw [Int.sub_zero]; rw [Bool.and_eq_true] at hj ⊢; exact ⟨rfl, by rw [Bool.and_eq_true]; exact hj⟩), fun p hp => ?_⟩
    have := (Post.of rfl x1 q).newL r1 (by have := drs_upTo (K := X.K) (H := H1) (ow := g1.own) 0 (by assumption); rw [Int.sub_zero] at this; exact this) p hp
    exact this
  · cases e3
theorem s_lrg2 (hx : XOk X) (hg : Gl X "list") (hm : X.mg "list" = none) (hg2 : Gl X "range") (hm2 : X.mg "range" = none) (ha : PE X a (tE X.K ca)) (hb : PE X b (tE X.K cb)) (hs : isStar a = false) (hs2 : isStar b = false) :
    PE X (.Call (.Name "list" p) [.Call (.Name "range" p2) [a, b] [] pos2] [] pos) (tE X.K (cPrim .lrange2 (cCons ca (cCons cb cNil)))) := by
  refine (pe_listRg hx.calm hg hm (prg_2 hg2 hm2 ha hb (star_of hs) (star_of hs2) (starPl _ _ _ (by simp [hs2]))) rfl).mpi fun σ H Q ⟨g, ρ, w, h', s, r, e, q⟩ => ?_
  obtain ⟨xs, ds, d, e1, e2, e3, rfl⟩ := prim_k e
  obtain ⟨x, h1, y, dx, dy, e4, e5, e6, e7, hds⟩ := arg2_k e1 e2
  unfold primD at e3
  split at e3 <;> try contradiction
  cases hds
  split at e3
  · rename_i hj
    cases e3
    refine two s r e4 e5 fun g1 v u H1 eg1 x1 r1 v1 v2 => ?_
    subst eg1
    have := curInt r1 v1 e6
    subst this
    have := curInt r1 v2 e7
    subst this
    exact ⟨_, _, rfl, rfl, rgOk_of hj, fun p hp => (Post.of rfl x1 q).newL r1 (drs_upTo _ _) p hp⟩
  · cases e3
theorem s_trg1 (hx : XOk X) (hg : Gl X "tuple") (hm : X.mg "tuple" = none) (hg2 : Gl X "range") (hm2 : X.mg "range" = none) (ha : PE X a (tE X.K ca)) (hs : isStar a = false) :
    PE X (.Call (.Name "tuple" p) [.Call (.Name "range" p2) [a] [] pos2] [] pos) (tE X.K (cPrim .trange1 (cCons ca cNil))) := by
  refine (pe_tupRg hx.calm hg hm (prg_1 hg2 hm2 ha (star_of hs)) rfl).mpi fun σ H Q ⟨g, ρ, w, h', s, r, e, q⟩ => ?_
  obtain ⟨xs, ds, d, e1, e2, e3, rfl⟩ := prim_k e
  obtain ⟨x, dx, e4, e5, hds⟩ := arg1_k e1 e2
  unfold primD at e3
  split at e3 <;> try contradiction
  cases hds
  split at e3
  · rename_i hj
    cases e3
    refine one s r e4 fun g1 v H1 eg1 x1 r1 v1 => ?_
    subst eg1
    have := curInt r1 v1 e5
    subst this
    refine ⟨_, rfl, rgOk_of (by rw [Int.sub_zero]; rw [Bool.and_eq_true] at hj ⊢; exact ⟨rfl, by rw [Bool.and_eq_true]; exact hj⟩), fun p hp => ?_⟩
    have := (Post.of rfl x1 q).newT r1 (by have := drs_upTo (K := X.K) (H := H1) (ow := g1.own) 0 (by assumption); rw [Int.sub_zero] at this; exact this) p hp
    exact this
  · cases e3
theorem s_trg2 (hx : XOk X) (hg : Gl X "tuple") (hm : X.mg "tuple" = none) (hg2 : Gl X "range") (hm2 : X.mg "range" = none) (ha : PE X a (tE X.K ca)) (hb : PE X b (tE X.K cb)) (hs : isStar a = false) (hs2 : isStar b = false) :
    PE X (.Call (.Name "tuple" p) [.Call (.Name "range" p2) [a, b] [] pos2] [] pos) (tE X.K (cPrim .trange2 (cCons ca (cCons cb cNil)))) := by
  refine (pe_tupRg hx.calm hg hm (prg_2 hg2 hm2 ha hb (star_of hs) (star_of hs2) (starPl _ _ _ (by simp [hs2]))) rfl).mpi fun σ H Q ⟨g, ρ, w, h', s, r, e, q⟩ => ?_
  obtain ⟨xs, ds, d, e1, e2, e3, rfl⟩ := prim_k e
  obtain ⟨x, h1, y, dx, dy, e4, e5, e6, e7, hds⟩ := arg2_k e1 e2
  unfold primD at e3
  split at e3 <;> try contradiction
  cases hds
  split at e3
  · rename_i hj
    cases e3
    refine two s r e4 e5 fun g1 v u H1 eg1 x1 r1 v1 v2 => ?_
    subst eg1
    have := curInt r1 v1 e6
    subst this
    have := curInt r1 v2 e7
    subst this
    exact ⟨_, _, rfl, rfl, rgOk_of hj, fun p hp => (Post.of rfl x1 q).newT r1 (drs_upTo _ _) p hp⟩
  · cases e3
end
end MP

namespace MP
open PySem PySem.Spec L2
open PyProof.Rows hiding St

/-! ### calls of the text's own defs -/
/-- what a def promises: what the oracle says -/
def spF (K : PySem.W.Frag) (C : Orc) (i : Nat) : Sp := fun vs H Q _ => ∃ g ws w h', VRs K H g ws vs ∧ HR K H g ∧ C i ws g.h = some (w, h') ∧ ∀ g' v H', g'.h = h' → Ext g H g' H' → HR K H' g' → VR K H' g' w v → Q v H'
/-- the call of a def by its name is served -/
structure CallOk (X : Cx) (C : Orc) (x : Str) (i : Nat) : Prop where
  ex : ∃ (f : Addr) (fd : FuncData) (ps : List Str) (k : Nat), FnOk X.prog X.w X.K X.mg X.base CX0 k f fd ps (spF X.K C i) ∧ Room k X.A ∧ X.mg x = some (.ref f) ∧ PySem.W.keepIn X.K (.ref f) = true ∧ Binds X.K fd ps []
section
variable {X : Cx} {C : Orc} {cs : Cms} {e : Expr} {es : List Expr} {x : Str} {i : Nat} {p pos : Pos}
theorem pe_own (hC : CallOk X C x i) (hg : Gl X x) (hd : (x == ("__debug__" : Str)) = false) {t : TA} (ha : PA X (e :: es) t) (hs : (e :: es).any isStar = false) : PE X (.Call (.Name x p) (e :: es) [] pos) (tCall (spF X.K C i) [] E0 t) := by
  obtain ⟨f, fd, ps, k, F, hr, hm, hk, hb⟩ := hC.ex
  rw [List.any_cons, Bool.or_eq_false_iff] at hs
  exact pe_call F hr hg hm hk hb .nil pass0 ha hd (star_of hs.1) (starPl _ _ _ hs.2)
theorem call_k {ρ : Env'} {h : Hm} {q : Vl × Hm} (e : cCall C i cs ρ h = some q) : ∃ xs h1, cs ρ h = some (xs, h1) ∧ C i xs h1 = some q := by
  unfold cCall at e
  split at e
  · cases e
  · rename_i xs h1 e1
    exact ⟨xs, h1, e1, e⟩
theorem call_read {K : PySem.W.Frag} {σ : L2.St} {H : Hp} {Q : VK} (h : tE K (cCall C i cs) σ H Q) : tCall (spF K C i) [] E0 (tAs K cs) σ H Q := by
  obtain ⟨g, ρ, w, h', s, r, e, q⟩ := h
  obtain ⟨xs, h1, e1, e2⟩ := call_k e
  refine ⟨g, ρ, xs, h1, s, r, e1, fun g1 vs H1 eg1 x1 r1 v1 => ?_⟩
  show spF K C i (vs ++ []) H1 Q E0
  rw [List.append_nil]
  exact ⟨g1, xs, w, h', v1, r1, by rw [eg1]; exact e2, fun g2 v H2 eg2 x2 r2 v2 => q g2 v H2 eg2 (x1.trans x2) r2 v2⟩
/-! ### calls that leave ours as it is -/
/-- ours as others see it, but what is lent -/
def G.out (g : G) (L : Addr → Prop) : G := ⟨fun a => g.own a ∧ ¬ L a, [], []⟩
theorem out_own {g : G} {L : Addr → Prop} {a : Addr} : (g.out L).own a ↔ g.own a ∧ ¬ L a := by
  constructor
  · rintro (h | ⟨n, o, h, _⟩)
    · exact h
    · exact absurd h (by simp [G.out])
  · exact fun h => .inl h
theorem HR.outR {K : PySem.W.Frag} {H : Hp} {g : G} (R : HR K H g) (L : Addr → Prop) : HR K H (g.out L) := by
  refine ⟨rfl, List.nodup_nil, fun n o a h _ => absurd h (by simp [G.out]), fun a _ => by simp [G.out], fun a z => ?_⟩
  rcases z.1 with z | ⟨n, o, h1, h2, _⟩
  · exact R.zs a z
  · exact (R.obj n o a h2 h1).some
theorem stays_out {H : Hp} {g : G} (L : Addr → Prop) : Stays H g.own H (g.out L).own := ⟨fun _ _ _ e => e, fun a z => .inl (out_own.mp z).1⟩
mutual
theorem DR.noL {K : PySem.W.Frag} {H : Hp} {ow ow' : Addr → Prop} (k : ∀ a vs, H a = some (.tup vs) → ¬ ow a → ¬ ow' a) : ∀ {d : PyData} {v : V}, DR K H ow d v → MP.noL d = true → DR K H ow' d v
  | _, _, .non, _ => .non
  | _, _, .bl b, _ => .bl b
  | _, _, .int i, _ => .int i
  | _, _, .str x, _ => .str x
  | _, _, .lst _ _, h => by cases h
  | _, _, .tup h t, e => .tup ⟨h.1, k _ _ h.1 h.2⟩ (DRs.noL k t e)
theorem DRs.noL {K : PySem.W.Frag} {H : Hp} {ow ow' : Addr → Prop} (k : ∀ a vs, H a = some (.tup vs) → ¬ ow a → ¬ ow' a) : ∀ {d : List PyData} {v : List V}, DRs K H ow d v → MP.noLs d = true → DRs K H ow' d v
  | _, _, .nil, _ => .nil
  | d :: ds, _, .cons h t, e => by
    have e' : (MP.noL d && MP.noLs ds) = true := e
    rw [Bool.and_eq_true] at e'
    exact .cons (DR.noL k h e'.1) (DRs.noL k t e'.2)
end
theorem pure_vrs {K : PySem.W.Frag} {H : Hp} {g : G} : ∀ {ws : List Vl} {vs : List V}, VRs K H g ws vs → pureV ws = true → VRs K H (g.out fun _ => False) ws vs
  | _, _, .nil, _ => .nil
  | _, _, .cons (.d h) t, e => .cons (.d (h.mono (stays_out _))) (pure_vrs t e)
  | _, _, .cons (.s h) t, e => .cons (.s (h.mono (stays_out _))) (pure_vrs t e)
  | _, _, .cons (.r h) t, e => by cases e
/-- the lists that are lent -/
def lentTo (H : Hp) (vs : List V) : Addr → Prop := fun a => V.ref a ∈ vs ∧ ∃ us, H a = some (.lst us)
theorem lend_vrs {K : PySem.W.Frag} {H : Hp} {g : G} (R : HR K H g) (L : Addr → Prop) : ∀ {ws us : List Vl} {vs : List V}, VRs K H g ws vs → lend g.h ws = some us → (∀ a, V.ref a ∈ vs → (∃ us, H a = some (.lst us)) → L a) → VRs K H (g.out L) us vs
  | _, _, _, .nil, e, _ => by cases e; exact .nil
  | w :: ws, us, _, .cons (v := v) (vs := vs) h t, e, k => by
    cases h with
    | d h =>
      obtain ⟨us', e1, e2⟩ := Option.map_eq_some_iff.mp (show (lend g.h ws).map (Vl.d _ :: ·) = some us from e)
      subst e2
      exact .cons (.d (h.mono (stays_out _))) (lend_vrs R L t e1 fun a m => k a (List.mem_cons_of_mem _ m))
    | s h =>
      obtain ⟨us', e1, e2⟩ := Option.map_eq_some_iff.mp (show (lend g.h ws).map (Vl.s _ :: ·) = some us from e)
      subst e2
      exact .cons (.s (h.mono (stays_out _))) (lend_vrs R L t e1 fun a m => k a (List.mem_cons_of_mem _ m))
    | @r n a h =>
      have e' : (match cur g.h (.r n), lend g.h ws with
        | some d, some us => some (Vl.d d :: us)
        | _, _ => none) = some us := e
      split at e'
      · rename_i d us' hd hu
        cases e'
        refine .cons (.d ?_) (lend_vrs R L t hu fun a m => k a (List.mem_cons_of_mem _ m))
        have cr := cur_ok R (.r h) hd
        cases d with
        | list ds =>
          obtain ⟨b, zs, e1, h1, h2⟩ := cr.list
          cases e1
          exact .lst ⟨h1, fun z => (out_own.mp z).2 (k _ List.mem_cons_self ⟨_, h1⟩)⟩ (h2.mono (stays_out _))
        | _ =>
          exfalso
          unfold cur at hd
          simp only at hd
          split at hd
          · obtain ⟨_, _, q⟩ := Option.map_eq_some_iff.mp hd
            cases q
          · cases hd
      · cases e'
theorem Ext.ofOut {g g' : G} {H H' : Hp} {L : Addr → Prop} (x : Ext (g.out L) H g' H') : ∀ a o, H a = some o → H' a = some o := fun a o e => x.keep a o (fun ⟨n, u, h, _⟩ => absurd h (by simp [G.out])) e
theorem callP_k {ρ : Env'} {h : Hm} {q : Vl × Hm} (e : cCallP C i cs ρ h = some q) : ∃ xs h1 d h2, cs ρ h = some (xs, h1) ∧ q = (.d d, h1) ∧ ((pureV xs = true ∧ C i xs [] = some (.d d, h2)) ∨ ∃ us, lend h1 xs = some us ∧ C i us [] = some (.d d, h2) ∧ noL d = true) := by
  unfold cCallP at e
  split at e
  · cases e
  · rename_i xs h1 e1
    split at e
    · rename_i hp
      split at e
      · rename_i d h2 e2
        cases e
        exact ⟨xs, h1, d, h2, e1, rfl, .inl ⟨hp, e2⟩⟩
      · cases e
    · split at e
      · rename_i us hl
        split at e
        · rename_i d h2 e2
          split at e
          · rename_i hn
            cases e
            exact ⟨xs, h1, d, h2, e1, rfl, .inr ⟨us, hl, e2, hn⟩⟩
          · cases e
        · cases e
      · cases e
theorem callP_read {K : PySem.W.Frag} {σ : L2.St} {H : Hp} {Q : VK} (h : tE K (cCallP C i cs) σ H Q) : tCall (spF K C i) [] E0 (tAs K cs) σ H Q := by
  obtain ⟨g, ρ, w, h', s, r, e, q⟩ := h
  obtain ⟨xs, h1, d, h2, e1, e3, e2⟩ := callP_k e
  cases e3
  refine ⟨g, ρ, xs, h', s, r, e1, fun g1 vs H1 eg1 x1 r1 v1 => ?_⟩
  subst eg1
  show spF K C i (vs ++ []) H1 Q E0
  rw [List.append_nil]
  rcases e2 with ⟨hp, e2⟩ | ⟨us, hl, e2, hn⟩
  · refine ⟨g1.out fun _ => False, xs, .d d, h2, pure_vrs v1 hp, r1.outR _, e2, fun g2 v H2 eg2 x2 r2 v2 => ?_⟩
    have kp := Ext.ofOut x2
    refine q g1 v H2 rfl (x1.trans (Ext.same kp)) (r1.same kp) (.d ?_)
    cases v2 with
    | d v2 =>
      refine v2.mono ⟨fun _ _ _ e => e, fun a z => .inl (.inl ?_)⟩
      rw [x2.z]
      exact ⟨z, fun f => f⟩
  · refine ⟨g1.out (lentTo H1 vs), us, .d d, h2, lend_vrs r1 _ v1 hl fun a m z => ⟨m, z⟩, r1.outR _, e2, fun g2 v H2 eg2 x2 r2 v2 => ?_⟩
    have kp := Ext.ofOut x2
    refine q g1 v H2 rfl (x1.trans (Ext.same kp)) (r1.same kp) (.d ?_)
    cases v2 with
    | d v2 =>
      refine v2.noL (fun a ts ht n z => n (.inl ?_)) hn
      rw [x2.z]
      refine ⟨z, fun ⟨_, us, hu⟩ => ?_⟩
      rw [kp a _ hu] at ht
      cases ht
theorem s_call (hC : CallOk X C x i) (hg : Gl X x) (hd : (x == ("__debug__" : Str)) = false) (ha : PA X (e :: es) (tAs X.K cs)) (hs : (e :: es).any isStar = false) : PE X (.Call (.Name x p) (e :: es) [] pos) (tE X.K (cCall C i cs)) := (pe_own hC hg hd ha hs).mpi fun _ _ _ h => call_read h
theorem s_callP (hC : CallOk X C x i) (hg : Gl X x) (hd : (x == ("__debug__" : Str)) = false) (ha : PA X (e :: es) (tAs X.K cs)) (hs : (e :: es).any isStar = false) : PE X (.Call (.Name x p) (e :: es) [] pos) (tE X.K (cCallP C i cs)) := (pe_own hC hg hd ha hs).mpi fun _ _ _ h => callP_read h
end
end MP

namespace MP
open PySem PySem.Spec L2
open PyProof.Rows hiding St

/-! ### the check of a text -/
structure Ck where
  N : List Str
  sc : Scope
  fn : Str → Bool
  gl : List (Str × Nat)
  fr : List Str
def isGl (c : Ck) (x : Str) : Bool := decide (c.sc.names.lookup x = some .globalImplicit)
/-- a built-in's name -/
def isFr (c : Ck) (x : Str) : Bool := isGl c x && c.fr.contains x
def okCon : PyData → Const → Bool
  | .none, .none => true
  | .bool a, .bool b => a == b
  | .int i, .int j => decide (i = j)
  | .str x, .str y => decide (x = y)
  | _, _ => false
def visB (sc : Scope) (x : Str) : Bool := match sc.names.lookup x with
  | some .local => true
  | some .cell => true
  | some .free => true
  | _ => false
def tst : Expr → Bool
  | .IfExp .. => false
  | _ => true
/-- a value that is not an if-expression, a comparison, and, or, not: as a test -/
def simpleT : Expr → Bool
  | .UnaryOp .Not _ _ => false
  | .BoolOp .. => false
  | .IfExp .. => false
  | .Compare .. => false
  | _ => true
def plainR : Expr → Bool
  | .Name .. => true
  | .Subscript .. => true
  | _ => false
def notSet : Expr → Bool
  | .Set .. => false
  | _ => true
/-- a built-in function's name, a type's? -/
def nmP : PR → Option (Str × Bool)
  | .len => some ("len", false)
  | .abs => some ("abs", false)
  | .int => some ("int", true)
  | .max2 => some ("max", false)
  | .min2 => some ("min", false)
  | .sum => some ("sum", false)
  | .tuple => some ("tuple", true)
  | .list => some ("list", true)
  | .all => some ("all", false)
  | .any => some ("any", false)
  | .max1 => some ("max", false)
  | .min1 => some ("min", false)
  | _ => none
def okTy (r : PR) (y : Str) : Bool := match r with
  | .isInt => decide (y = "int")
  | .isBool => decide (y = "bool")
  | .isTup => decide (y = "tuple")
  | .isStr => decide (y = "str")
  | .isList => decide (y = "list")
  | _ => false
def litKeys : List (Option Expr) → Option (List Key)
  | [] => some []
  | some e :: r => match litKey e, litKeys r with
    | some k, some ks => some (k :: ks)
    | _, _ => none
  | none :: _ => none
/-- the slots of a comprehension's own names -/
def ownN (N : List Str) (own : List Nat) : List (Str × Nat) := own.map fun i => (N.getD i "", i)
def Ck.inner (c : Ck) (scope : Scope) : Ck := { c with sc := relS scope c.sc, fn := fun x => decide (scope.names.lookup x = some .cell) }
def partB : E → Option Expr → (Expr → Bool) → Bool
  | .nop, e, _ => match e with
    | none => true
    | _ => false
  | _, e, k => match e with
    | some x => k x
    | none => false
def condB : E → List Expr → (Expr → Bool) → Bool
  | .nop, e, _ => match e with
    | [] => true
    | _ => false
  | _, e, k => match e with
    | [x] => tst x && k x
    | _ => false
mutual
def okE (c : Ck) : E → Expr → Bool
  | .v i, e => match e with
    | .Name x _ => decide (c.N[i]? = some x) && (visB c.sc x && (!(x == ("__debug__" : Str)) && !(x == ("__classdict__" : Str))))
    | _ => false
  | .c d, e => match e with
    | .Constant k _ _ => okCon d k
    | _ => false
  | .bin o a b, e => match e with
    | .BinOp l p r _ => decide (p = o.py) && (okE c a l && okE c b r)
    | _ => false
  | .neg a, e => match e with
    | .UnaryOp .USub x _ => okE c a x
    | _ => false
  | .cmp o a b, e => match e with
    | .Compare l [p] [r] _ => decide (p = o.py) && (!(behindInMarks p r) && (okE c a l && okE c b r))
    | _ => false
  | .ch2 o o2 a b d, e => match e with
    | .Compare l [p, p2] [r, r2] _ => decide (p = o.py) && (decide (p2 = o2.py) && (!(lastMarks [p, p2] [r, r2]) && (okE c a l && (okE c b r && okE c d r2))))
    | _ => false
  | .and_ a as, e => match e with
    | .BoolOp .And (x :: xs) _ => okE c a x && (tst x && (xs.all tst && okEs c as xs))
    | _ => false
  | .or_ a as, e => match e with
    | .BoolOp .Or (x :: xs) _ => okE c a x && (tst x && (xs.all tst && okEs c as xs))
    | _ => false
  | .not_ a, e => match e with
    | .UnaryOp .Not x _ => tst x && okE c a x
    | _ => false
  | .ife t a b, e => match e with
    | .IfExp x y z _ => tst x && (okE c t x && (okE c a y && okE c b z))
    | _ => false
  | .tup as, e => match e with
    | .Tuple es _ _ => okEs c as es
    | _ => false
  | .fl f, e => okF c f e
  | .fm f, e => okF c f e
  | .ix a b, e => match e with
    | .Subscript x i _ => !(isSlice i) && (okE c a x && okE c b i)
    | _ => false
  | .sl a lo hi, e => match e with
    | .Subscript x (.Slice l h none _) _ => okE c a x && (partB lo l (okE c lo) && partB hi h (okE c hi))
    | _ => false
  | .rev a, e => match e with
    | .Subscript x (.Slice none none (some (.UnaryOp .USub (.Constant (.int 1) _ _) _)) _) _ => okE c a x
    | _ => false
  | .nop, _ => false
  | .call f as, e => match e with
    | .Call (.Name x _) (y :: ys) [] _ => decide (c.gl.lookup x = some f) && (isGl c x && (!(x == ("__debug__" : Str)) && okEs c as (y :: ys)))
    | _ => false
  | .callP f as, e => match e with
    | .Call (.Name x _) (y :: ys) [] _ => decide (c.gl.lookup x = some f) && (isGl c x && (!(x == ("__debug__" : Str)) && okEs c as (y :: ys)))
    | _ => false
  | .prim p as, e => match as with
    | .cons a .nil => match e with
      | .Call (.Name x _) [y, .Name z _] [] _ => decide (x = "isinstance") && (isFr c x && (okTy p z && (isFr c z && (!(isStar y) && okE c a y))))
      | .Call (.Name x _) [.Call (.Name z _) [y] [] _] [] _ => match p with
        | .lrange1 => decide (x = "list") && (isFr c x && (decide (z = "range") && (isFr c z && (!(isStar y) && okE c a y))))
        | .trange1 => decide (x = "tuple") && (isFr c x && (decide (z = "range") && (isFr c z && (!(isStar y) && okE c a y))))
        | _ => (match e with
          | .Call _ [y] [] _ => decide ((nmP p).map (·.1) = some x) && (isFr c x && (!(isStar y) && okE c a y))
          | _ => false)
      | .Call (.Name x _) [y] [] _ => decide ((nmP p).map (·.1) = some x) && (isFr c x && (!(isStar y) && okE c a y))
      | _ => false
    | .cons a (.cons b .nil) => match e with
      | .Call (.Name x _) [.Call (.Name z _) [y, y2] [] _] [] _ => match p with
        | .lrange2 => decide (x = "list") && (isFr c x && (decide (z = "range") && (isFr c z && (!(isStar y) && (!(isStar y2) && (okE c a y && okE c b y2))))))
        | .trange2 => decide (x = "tuple") && (isFr c x && (decide (z = "range") && (isFr c z && (!(isStar y) && (!(isStar y2) && (okE c a y && okE c b y2))))))
        | _ => false
      | .Call (.Name x _) [y, z] [] _ => decide ((nmP p).map (·.1) = some x) && (isFr c x && (!(isStar y) && (!(isStar z) && (okE c a y && okE c b z))))
      | _ => false
    | _ => false
  | .mcnt _ _, _ => false
  | .midx _ _, _ => false
  | .dic ks as, e => match e with
    | .Dict (k0 :: keys) values _ => decide (litKeys (k0 :: keys) = some ks) && (dist ks && (Nat.ble ks.length 15 && (decide (ks.length = values.length) && okEs c as values)))
    | _ => false
  | .dit, e => match e with
    | .Dict [] [] _ => true
    | _ => false
  | .frz a, e => simpleT e && okE c a e
def okEs (c : Ck) : Es → List Expr → Bool
  | .nil, es => match es with
    | [] => true
    | _ => false
  | .cons a as, es => match es with
    | x :: xs => !(isStar x) && (okE c a x && okEs c as xs)
    | [] => false
def okF (c : Ck) : F → Expr → Bool
  | .disp as, e => match e with
    | .List es _ => okEs c as es
    | _ => false
  | .comp own a t i q, e => match e with
    | .ListComp elt [⟨tg, iter, ifs, 0⟩] scope _ => blkC c.N c.sc scope (ownN c.N own) && (okE (c.inner scope) a elt && (okT (c.inner scope) (some own) t tg && (okI c tg i iter && condB q ifs (okE (c.inner scope) q))))
    | _ => false
  | .rep f b, e => match e with
    | .BinOp x .Mult y _ => okF c f x && okE c b y
    | _ => false
  | .lof a, e => match e with
    | .Call (.Name x _) [y] [] _ => decide (x = "list") && (isFr c x && (!(isStar y) && okE c a y))
    | _ => false
  | .ofE _, _ => false
def okT (c : Ck) (P : Option (List Nat)) : T → Expr → Bool
  | .nm i, e => match e with
    | .Name x _ => decide (c.N[i]? = some x) && ((decide (c.sc.names.lookup x = some .local) || (decide (c.sc.names.lookup x = some .cell) && c.fn x)) && (match P with
      | none => true
      | some vs => decide (i ∈ vs)))
    | _ => false
  | .tp ts, e => match e with
    | .Tuple es _ _ => okTs c P ts es
    | _ => false
  | .sb o i, e => match e with
    | .Subscript x y _ => !(isSlice y) && (okE c o x && okE c i y)
    | _ => false
def okTs (c : Ck) (P : Option (List Nat)) : Ts → List Expr → Bool
  | .nil, es => match es with
    | [] => true
    | _ => false
  | .cons t ts, es => match es with
    | x :: xs => !(isStar x) && (okT c P t x && okTs c P ts xs)
    | [] => false
def okI (c : Ck) (tg : Expr) : I → Expr → Bool
  | .r1 a, e => match e with
    | .Call (.Name f _) [x] [] _ => decide (f = "range") && (isFr c f && (!(isStar x) && okE c a x))
    | _ => false
  | .r2 a b, e => match e with
    | .Call (.Name f _) [x, y] [] _ => decide (f = "range") && (isFr c f && (!(isStar x) && (!(isStar y) && (okE c a x && okE c b y))))
    | _ => false
  | .r3 a b d, e => match e with
    | .Call (.Name f _) [x, y, z] [] _ => decide (f = "range") && (isFr c f && (!(isStar x) && (!(isStar y) && (!(isStar z) && (okE c a x && (okE c b y && okE c d z))))))
    | _ => false
  | .sq a, e => notSet e && okE c a e
  | .z2 a b, e => match tg with
    | .Tuple .. => match e with
      | .Call (.Name f _) [x, y] [] _ => decide (f = "zip") && (isFr c f && (!(isStar x) && (!(isStar y) && (okE c a x && okE c b y))))
      | _ => false
    | _ => false
  | .z3 _ _ _, _ => false
end
/-- whether name = [..] is walked in one -/
def swaps (c : Ck) (v tg : Expr) : Bool := match v with
  | .ListComp _ _ scope p => match tg with
    | .Name t py => decide (c.sc.names.lookup t = some .local) && ((py.line == p.line) && !(scope.names.any fun (n, k) => n == t && (k == .local || k == .cell)))
    | _ => false
  | _ => false
def noComp : Expr → Bool
  | .ListComp .. => false
  | .SetComp .. => false
  | .DictComp .. => false
  | _ => true
def notSD : Expr → Bool
  | .SetComp .. => false
  | .DictComp .. => false
  | _ => true
def isTL : Expr → Bool
  | .Tuple .. => true
  | .List .. => true
  | _ => false
def isTu : Expr → Bool
  | .Tuple .. => true
  | _ => false
/-- the plain local names on the first one's line -/
def swN1 (c : Ck) (l : Nat) : Expr → Option Str
  | .Name id pos => if (c.sc.names.lookup id == some .local && pos.line == l) = true then some id else none
  | _ => none
def swN (c : Ck) (ts : List Expr) : List Str := ts.filterMap (swN1 c ((ts.head?.map (·.pos.line)).getD 0))
/-- whether the pair is not stored from the right -/
def noSw (c : Ck) (ts vs : List Expr) : Bool := (!(ts.length == 2 || ts.length == 3) || vs.length != ts.length) || ((swN c ts).length != ts.length || vs.all (foldedForSure 8))
def isSw (c : Ck) (ts vs : List Expr) : Bool := !(vs.all (foldedForSure 8)) && !(vs.all (constantsAlone 8))
def locN (c : Ck) (i : Nat) (x : Str) : Bool := decide (c.N[i]? = some x) && decide (c.sc.names.lookup x = some .local)
def okPar (c : Ck) (ts : Ts) (tgs es : List Expr) : Bool := match ts with
  | .cons (.nm i) (.cons (.nm j) .nil) => match tgs with
    | [.Name x px, .Name y py] => locN c i x && (locN c j y && ((py.line == px.line) && (!(decide (i = j)) && (!(x == y) && (decide (es.length = 2) && isSw c tgs es)))))
    | _ => false
  | .cons (.nm i) (.cons (.nm j) (.cons (.nm l) .nil)) => match tgs with
    | [.Name x px, .Name y py, .Name z pz] => locN c i x && (locN c j y && (locN c l z && ((py.line == px.line) && ((pz.line == px.line) && (!(decide (i = j)) && (!(decide (i = l)) && (!(decide (j = l)) && (!(x == y) && (!(x == z) && (!(y == z) && (decide (es.length = 3) && isSw c tgs es)))))))))))
    | _ => false
  | _ => false
def isLc : E → Bool
  | .fl (.comp ..) => true
  | .fm (.comp ..) => true
  | _ => false
mutual
def okS (c : Ck) : S → Stmt → Bool
  | .asg t a, s => match s with
    | .Assign [tg] v _ => notSD v && (!(isStar tg) && (okT c none t tg && (okE c a v && (!(isTL tg && isTu v) && (if swaps c v tg then isLc a else true)))))
    | _ => false
  | .par ts as, s => match s with
    | .Assign [.Tuple tgs _ _] (.Tuple es _ _) _ => okTs c none ts tgs && (okEs c as es && (okPar c ts tgs es || (noSw c tgs es && Nat.ble tgs.length 1000)))
    | _ => false
  | .aug i o a, s => match s with
    | .AugAssign (.Name x _) p v _ => decide (p = o.py) && (decide (c.N[i]? = some x) && ((decide (c.sc.names.lookup x = some .local) || (decide (c.sc.names.lookup x = some .cell) && c.fn x)) && okE c a v))
    | _ => false
  | .augS a b o d, s => match s with
    | .AugAssign (.Subscript x y _) p v _ => decide (p = o.py) && (!(isSlice y) && (okE c a x && (okE c b y && okE c d v)))
    | _ => false
  | .ife t a b, s => match s with
    | .If e p q _ => tst e && (okE c t e && (okSs c a p && okSs c b q))
    | _ => false
  | .whl t b, s => match s with
    | .While e p [] _ => tst e && (okE c t e && okSs c b p)
    | _ => false
  | .for_ t i b, s => match s with
    | .For tg iter p [] _ => okI c tg i iter && (okT c none t tg && okSs c b p)
    | _ => false
  | .ret a, s => match s with
    | .Return (some e) _ => okE c a e
    | _ => false
  | .retN, s => match s with
    | .Return none _ => true
    | _ => false
  | .brk, s => match s with
    | .Break _ => true
    | _ => false
  | .cnt, s => match s with
    | .Continue _ => true
    | _ => false
  | .pas, s => match s with
    | .Pass _ => true
    | .Expr (.Constant (.str _) _ _) _ => true
    | _ => false
  | .exp a, s => match s with
    | .Expr e _ => noComp e && okE c a e
    | _ => false
  | .app a b, s => match s with
    | .Expr (.Call (.Attribute x m p) [y] [] q) _ => decide (m = "append") && (plainR x && ((p.endLine == q.line) && (!(isStar y) && (okE c a x && okE c b y))))
    | _ => false
  | .ext a b, s => match s with
    | .Expr (.Call (.Attribute x m p) [y] [] q) _ => decide (m = "extend") && (plainR x && ((p.endLine == q.line) && (!(isStar y) && (okE c a x && okE c b y))))
    | _ => false
  | .pop a, s => match s with
    | .Expr (.Call (.Attribute x m p) [] [] q) _ => decide (m = "pop") && (plainR x && ((p.endLine == q.line) && okE c a x))
    | _ => false
  | .frz _, _ => false
def okSs (c : Ck) : Ss → List Stmt → Bool
  | .nil, ss => match ss with
    | [] => true
    | _ => false
  | .cons s ss, sts => match s with
    | .frz _ => okSs c ss sts
    | s => match sts with
      | t :: ts => okS c s t && okSs c ss ts
      | [] => false
end
end MP

namespace MP
open PySem PySem.Spec L2
open PyProof.Rows hiding St

structure Ag (X : Cx) (C : Orc) (c : Ck) : Prop where
  ok : XOk X
  N : X.N = c.N
  sc : X.env.scope = c.sc
  fn : ∀ x, c.fn x = true → X.fn x = true
  fr : ∀ x, c.fr.contains x = true → X.mg x = none
  gl : ∀ x i, c.gl.lookup x = some i → CallOk X C x i
structure SE (X : Cx) (C : Orc) (a : E) (e : Expr) : Prop where
  pe : PE X e (tE X.K (ev C a))
  pt : tst e = true → PT X e (tT X.K (toB (ev C a)))
inductive AllSE (X : Cx) (C : Orc) : Es → List Expr → Prop
  | nil : AllSE X C .nil []
  | cons {a : E} {as : Es} {e : Expr} {es : List Expr} : isStar e = false → SE X C a e → AllSE X C as es → AllSE X C (.cons a as) (e :: es)
section
variable {X : Cx} {C : Orc} {c : Ck}
theorem AllSE.pa : ∀ {as : Es} {es : List Expr}, AllSE X C as es → PA X es (tAs X.K (evs C as))
  | _, _, .nil => s_nil
  | _, _, .cons hs h t => s_cons h.pe t.pa (star_of hs)
theorem AllSE.ns : ∀ {as : Es} {es : List Expr}, AllSE X C as es → es.any isStar = false
  | _, _, .nil => rfl
  | _, _, .cons hs h t => by rw [List.any_cons, hs, Bool.false_or]; exact t.ns
theorem isTrue_simple {e : Expr} (h : simpleT e = true) : ∀ whole, isTrue e X.env whole = (do let v ← whole; standAt e.pos; holding [v] (truthy v)) := by
  intro whole
  cases e <;> first
    | rfl
    | (cases h; done)
    | (rename_i op x pos
       cases op <;> first
         | rfl
         | cases h)
theorem SE.simple {a : E} {e : Expr} (h : PE X e (tE X.K (ev C a))) (hs : simpleT e = true) : SE X C a e := ⟨h, fun _ => s_test h (isTrue_simple hs)⟩
theorem ofB_toB {K : PySem.W.Frag} {cm : Cm} {σ : L2.St} {H : Hp} {Q : VK} (h : tE K (ofB (toB cm)) σ H Q) : tE K cm σ H Q := by
  obtain ⟨g, ρ, w, h', s, r, e, q⟩ := h
  obtain ⟨k, rfl, e2⟩ := ofB_of e
  exact ⟨g, ρ, .d (.bool k), h', s, r, toB_of e2, q⟩
theorem SE.pb {a : E} {e : Expr} (h : SE X C a e) : PE X e (tE X.K (ofB (toB (ev C a)))) := h.pe.mpi fun _ _ _ z => ofB_toB z
theorem and_all {pos : Pos} : ∀ {as : Es} {xs : List Expr} {tc : Ct} {x : Expr}, PT X x (tT X.K tc) → PE X x (tE X.K (ofB tc)) → xs.all tst = true → AllSE X C as xs →
    PW X (.BoolOp .And (x :: xs) pos) (tT X.K (evAnd C tc as)) ∧ PE X (.BoolOp .And (x :: xs) pos) (tE X.K (ofB (evAnd C tc as)))
  | _, _, tc, x, ht, hp, _, .nil => ⟨pw_and1 ht, pe_one hp⟩
  | _, _, tc, x, ht, hp, ha, .cons hs h t => by
    rw [List.all_cons, Bool.and_eq_true] at ha
    obtain ⟨h1, h2⟩ := and_all (pos := pos) (h.pt ha.1) h.pb ha.2 t
    exact ⟨s_andW ht h1, s_andE hp h2⟩
theorem or_all {pos : Pos} : ∀ {as : Es} {xs : List Expr} {tc : Ct} {x : Expr}, PT X x (tT X.K tc) → PE X x (tE X.K (ofB tc)) → xs.all tst = true → AllSE X C as xs →
    PW X (.BoolOp .Or (x :: xs) pos) (tT X.K (evOr C tc as)) ∧ PE X (.BoolOp .Or (x :: xs) pos) (tE X.K (ofB (evOr C tc as)))
  | _, _, tc, x, ht, hp, _, .nil => ⟨pw_or1 ht, pe_one hp⟩
  | _, _, tc, x, ht, hp, ha, .cons hs h t => by
    rw [List.all_cons, Bool.and_eq_true] at ha
    obtain ⟨h1, h2⟩ := or_all (pos := pos) (h.pt ha.1) h.pb ha.2 t
    exact ⟨s_orW ht h1, s_orE hp h2⟩
theorem vis_of {sc : Scope} {x : Str} (h : visB sc x = true) : Vis sc x := by
  unfold visB at h
  split at h
  · exact .inl (by assumption)
  · exact .inr (.inl (by assumption))
  · exact .inr (.inr (by assumption))
  · cases h
theorem Ag.isGl (g : Ag X C c) {x : Str} (h : MP.isGl c x = true) : Gl X x := by
  unfold MP.isGl at h
  show X.env.scope.names.lookup x = _
  rw [g.sc]
  exact of_decide_eq_true h
theorem Ag.isFr (g : Ag X C c) {x : Str} (h : MP.isFr c x = true) : Gl X x ∧ X.mg x = none := by
  unfold MP.isFr at h
  rw [Bool.and_eq_true] at h
  exact ⟨g.isGl h.1, g.fr x h.2⟩
theorem con_ok {d : PyData} {k : Const} {j : Nat} {pos : Pos} (h : okCon d k = true) : PE X (.Constant k j pos) (tE X.K (cC d)) := by
  unfold okCon at h
  split at h
  · exact s_non
  · have := eq_of_beq h; subst this; exact s_bl
  · have := of_decide_eq_true h; subst this; exact s_int
  · have := of_decide_eq_true h; subst this; exact s_str
  · cases h
theorem prim_ok (hx : XOk X) {p : PR} {x : Str} (hn : (nmP p).map (·.1) = some x) (hg : Gl X x) (hm : X.mg x = none) {e : Expr} {es : List Expr} {cs : Cms} {q pos : Pos} (ha : PA X (e :: es) (tAs X.K cs)) (hs : isStar e = false) (hs2 : es.any isStar = false) : PE X (.Call (.Name x q) (e :: es) [] pos) (tE X.K (cPrim p cs)) := by
  cases p <;> first
    | (exfalso; cases hn; done)
    | (cases hn; first
        | exact s_primB p_len hg hm boot_len (by decide) (by decide) ha hs hs2
        | exact s_primB p_abs hg hm boot_abs (by decide) (by decide) ha hs hs2
        | exact s_primT p_int hg hm (boot_int) (by decide) (by decide) ha hs hs2
        | exact s_primB (p_max2 hx.calm) hg hm boot_max (by decide) (by decide) ha hs hs2
        | exact s_primB (p_min2 hx.calm) hg hm boot_min (by decide) (by decide) ha hs hs2
        | exact s_primB (p_sum hx.calm) hg hm boot_sum (by decide) (by decide) ha hs hs2
        | exact s_primT p_tuple hg hm (boot_tuple) (by decide) (by decide) ha hs hs2
        | exact s_primT p_list hg hm (boot_list) (by decide) (by decide) ha hs hs2
        | exact s_primB (p_all hx.calm) hg hm boot_all (by decide) (by decide) ha hs hs2
        | exact s_primB (p_any hx.calm) hg hm boot_any (by decide) (by decide) ha hs hs2
        | exact s_primB (p_max1 hx) hg hm boot_max (by decide) (by decide) ha hs hs2
        | exact s_primB (p_min1 hx) hg hm boot_min (by decide) (by decide) ha hs hs2)
theorem boot_str' : bootBuiltins "str" = some (.type "str") := by decide +kernel
theorem boot_bool' : bootBuiltins "bool" = some (.type "bool") := by decide +kernel
theorem isin_ok {p : PR} {x z : Str} (hx : x = "isinstance") (ht : okTy p z = true) (hg : Gl X x) (hm : X.mg x = none) (hg2 : Gl X z) (hm2 : X.mg z = none) {y : Expr} {cy : Cm} {q q2 pos : Pos} (ha : PE X y (tE X.K cy)) (hs : isStar y = false) :
    PE X (.Call (.Name x q) [y, .Name z q2] [] pos) (tE X.K (cPrim p (cCons cy cNil))) := by
  subst hx
  cases p <;> first
    | (exfalso; cases ht; done)
    | (have hz := of_decide_eq_true ht
       subst hz
       first
        | exact s_isi (t := "int") rfl boot_int (by decide) (by decide) hg2 hm2 hg hm boot_isinstance ha hs
        | exact s_isi (t := "bool") rfl boot_bool' (by decide) (by decide) hg2 hm2 hg hm boot_isinstance ha hs
        | exact s_isi (t := "tuple") rfl boot_tuple (by decide) (by decide) hg2 hm2 hg hm boot_isinstance ha hs
        | exact s_isi (t := "str") rfl boot_str' (by decide) (by decide) hg2 hm2 hg hm boot_isinstance ha hs
        | exact s_isi (t := "list") rfl boot_list (by decide) (by decide) hg2 hm2 hg hm boot_isinstance ha hs)
/-- the check's conjunctions -/
theorem ba2 {a b : Bool} (h : (a && b) = true) : a = true ∧ b = true := by rw [Bool.and_eq_true] at h; exact h
theorem bnot {a : Bool} (h : (!a) = true) : a = false := by cases a <;> first | rfl | cases h
theorem Ag.inner {s : Shared} {H : Hp} {D : Addr} {cl : List (Str × Addr)} {fp : List Addr} {scope : Scope} (g : Ag X C c) (hk : scope.kind = .function) : Ag (X.blk s H scope (compEnvC scope cl D X.env) fp) C (c.inner scope) where
  ok := ⟨g.ok.nd, g.ok.calm, rfl, g.ok.un, hk⟩
  N := g.N
  sc := by show relS scope X.env.scope = relS scope c.sc; rw [g.sc]
  fn := fun x h => by
    have h := of_decide_eq_true h
    show (scope.names.lookup x == some .cell) = true
    rw [h]; rfl
  fr := g.fr
  gl := fun x i h => by
    obtain ⟨f, fd, ps, k, F, hr, hm, hkp, hb⟩ := (g.gl x i h).ex
    exact ⟨f, fd, ps, k, F, hr, hm, hkp, hb⟩
end
def PP : Option (List Nat) → L2.St → L2.St → Prop
  | none => anyP
  | some vs => wipP vs
theorem pk_PP : ∀ P, Pk (PP P)
  | none => pk_any
  | some vs => pk_wip vs
theorem part_ok {X : Cx} {lo : E} {l : Option Expr} {k : Expr → Bool} {cm : Cm} (h : partB lo l k = true) (hk : ∀ x, k x = true → PE X x (tE X.K cm)) : PO X l (tO X.K (partOf lo cm)) := by
  cases lo <;> first
    | (cases l with
       | none => exact s_noPart
       | some x => cases h; done)
    | (cases l with
       | none => cases h; done
       | some x => exact s_part (hk x h))
theorem cond_ok {X : Cx} {K : PySem.W.Frag} {q : E} {ifs : List Expr} {k : Expr → Bool} {cm : Cm} (h : condB q ifs k = true) (hk : ∀ x, tst x = true → k x = true → PT X x (tT K (toB cm))) : PTs X ifs (tT K (condOf q cm)) := by
  cases q <;> first
    | (cases ifs with
       | nil => exact pts_nil'
       | cons x r => cases h; done)
    | (cases ifs with
       | nil => cases h; done
       | cons x r =>
         cases r with
         | nil =>
           obtain ⟨h1, h2⟩ := ba2 h
           exact pts_one (hk x h1 h2)
         | cons y r => cases h)
/-- a dict's pairs -/
def toCs (C : Orc) : Es → List Cm
  | .nil => []
  | .cons a as => ev C a :: toCs C as
theorem foldC_toCs (C : Orc) : ∀ as : Es, foldC (toCs C as) = evs C as
  | .nil => rfl
  | .cons a as => by
    show cCons (ev C a) (foldC (toCs C as)) = _
    rw [foldC_toCs C as]
    rfl
theorem toCs_len {X : Cx} {C : Orc} : ∀ {as : Es} {es : List Expr}, AllSE X C as es → (toCs C as).length = es.length
  | _, _, .nil => rfl
  | _, _, .cons _ _ t => congrArg Nat.succ (toCs_len t)
theorem pps_all {X : Cx} {C : Orc} {pos : Pos} : ∀ {keys : List (Option Expr)} {ks : List Key} {as : Es} {values : List Expr}, litKeys keys = some ks → AllSE X C as values → ks.length = values.length → PPs X pos keys values (trsOf X.K ks (toCs C as)) ∧ keys.length = ks.length ∧ keys.all (·.isSome) = true
  | [], ks, _, _, hk, .nil, _ => by cases hk; exact ⟨pps_nil, rfl, rfl⟩
  | [], ks, _, _, hk, .cons _ _ _, hl => by cases hk; cases hl
  | none :: r, _, _, _, hk, _, _ => by cases hk
  | some e :: r, ks, as, values, hk, t, hl => by
    unfold litKeys at hk
    split at hk
    · rename_i k ks' h1 h2
      cases hk
      cases t with
      | nil => cases hl
      | cons hs h t =>
        obtain ⟨q1, q2, q3⟩ := pps_all (pos := pos) h2 t (by simpa using hl)
        exact ⟨pps_cons (pe_key h1) h.pe q1, congrArg Nat.succ q2, by rw [List.all_cons, q3]; rfl⟩
    · cases hk
theorem ownN_ix (N : List Str) (own : List Nat) : (ownN N own).map (·.2) = own := by
  unfold ownN
  rw [List.map_map]
  induction own with
  | nil => rfl
  | cons a as ih => rw [List.map_cons, ih]; rfl
theorem folded_ok {e : Expr} {env : Env} (h : notSet e = true) : ∀ x, foldedSetIterable e env x = pure x := by
  intro x
  cases e <;> first
    | rfl
    | cases h
end MP

namespace MP
open PySem PySem.Spec L2
open PyProof.Rows hiding St

/-- what a target's check gives -/
structure TsOk (X : Cx) (C : Orc) (P : Option (List Nat)) (ts : Ts) (es : List Expr) : Prop where
  pg : PGs X es (tGs X.K (PP P) (evTs C ts))
  tk : Takes es.length (evTs C ts)
  ns : es.any isStar = false
mutual
theorem soE : ∀ (a : E) {e : Expr} {c : Ck} {X : Cx} {C : Orc}, Ag X C c → okE c a e = true → SE X C a e
  | .v i, e, c, X, C, g, h => by
    unfold okE at h
    split at h
    · obtain ⟨h1, h⟩ := ba2 h
      obtain ⟨h2, h⟩ := ba2 h
      obtain ⟨h3, h4⟩ := ba2 h
      have hN := of_decide_eq_true h1
      exact .simple (s_var (by rw [g.N]; exact hN) (by rw [g.sc]; exact vis_of h2) (bnot h3) (bnot h4)) rfl
    · cases h
  | .c d, e, c, X, C, g, h => by
    unfold okE at h
    split at h
    · exact .simple (con_ok h) rfl
    · cases h
  | .bin o a b, e, c, X, C, g, h => by
    unfold okE at h
    split at h
    · obtain ⟨h1, h⟩ := ba2 h
      obtain ⟨h2, h3⟩ := ba2 h
      have := of_decide_eq_true h1
      subst this
      exact .simple (s_bin (soE a g h2).pe (soE b g h3).pe) rfl
    · cases h
  | .neg a, e, c, X, C, g, h => by
    unfold okE at h
    split at h
    · exact .simple (s_neg (soE a g h).pe) rfl
    · cases h
  | .cmp o a b, e, c, X, C, g, h => by
    unfold okE at h
    split at h
    · obtain ⟨h1, h⟩ := ba2 h
      obtain ⟨h2, h⟩ := ba2 h
      obtain ⟨h3, h4⟩ := ba2 h
      have := of_decide_eq_true h1
      subst this
      refine ⟨s_cmp g.ok (soE a g h3).pe (soE b g h4).pe (bnot h2), fun _ => ?_⟩
      show PT X _ (tT X.K (toB (ofB (cCmpB o (ev C a) (ev C b)))))
      rw [toB_ofB]
      exact s_cmpT g.ok (soE a g h3).pe (soE b g h4).pe (bnot h2)
    · cases h
  | .ch2 o o2 a b d, e, c, X, C, g, h => by
    unfold okE at h
    split at h
    · obtain ⟨h1, h⟩ := ba2 h
      obtain ⟨h2, h⟩ := ba2 h
      obtain ⟨h3, h⟩ := ba2 h
      obtain ⟨h4, h⟩ := ba2 h
      obtain ⟨h5, h6⟩ := ba2 h
      have := of_decide_eq_true h1
      subst this
      have := of_decide_eq_true h2
      subst this
      refine ⟨s_ch2 g.ok (soE a g h4).pe (soE b g h5).pe (soE d g h6).pe (bnot h3), fun _ => ?_⟩
      show PT X _ (tT X.K (toB (ofB (cCh2 o o2 (ev C a) (ev C b) (ev C d)))))
      rw [toB_ofB]
      exact s_ch2T g.ok (soE a g h4).pe (soE b g h5).pe (soE d g h6).pe (bnot h3)
    · cases h
  | .and_ a as, e, c, X, C, g, h => by
    unfold okE at h
    split at h
    · obtain ⟨h1, h⟩ := ba2 h
      obtain ⟨h2, h⟩ := ba2 h
      obtain ⟨h3, h4⟩ := ba2 h
      have s1 := soE a g h1
      obtain ⟨q1, q2⟩ := and_all (s1.pt h2) s1.pb h3 (soEs as g h4)
      refine ⟨q2, fun _ => ?_⟩
      show PT X _ (tT X.K (toB (ofB (evAnd C (toB (ev C a)) as))))
      rw [toB_ofB]
      exact q1.pt
    · cases h
  | .or_ a as, e, c, X, C, g, h => by
    unfold okE at h
    split at h
    · obtain ⟨h1, h⟩ := ba2 h
      obtain ⟨h2, h⟩ := ba2 h
      obtain ⟨h3, h4⟩ := ba2 h
      have s1 := soE a g h1
      obtain ⟨q1, q2⟩ := or_all (s1.pt h2) s1.pb h3 (soEs as g h4)
      refine ⟨q2, fun _ => ?_⟩
      show PT X _ (tT X.K (toB (ofB (evOr C (toB (ev C a)) as))))
      rw [toB_ofB]
      exact q1.pt
    · cases h
  | .not_ a, e, c, X, C, g, h => by
    unfold okE at h
    split at h
    · obtain ⟨h1, h2⟩ := ba2 h
      have s1 := soE a g h2
      refine ⟨s_notE s1.pb, fun _ => ?_⟩
      show PT X _ (tT X.K (toB (ofB (cNot (toB (ev C a))))))
      rw [toB_ofB]
      exact s_not (s1.pt h1)
    · cases h
  | .ife t a b, e, c, X, C, g, h => by
    unfold okE at h
    split at h
    · obtain ⟨h1, h⟩ := ba2 h
      obtain ⟨h2, h⟩ := ba2 h
      obtain ⟨h3, h4⟩ := ba2 h
      exact ⟨s_if ((soE t g h2).pt h1) (soE a g h3).pe (soE b g h4).pe, fun z => by cases z⟩
    · cases h
  | .tup as, e, c, X, C, g, h => by
    unfold okE at h
    split at h
    · exact .simple (s_tup (soEs as g h).pa) rfl
    · cases h
  | .fl f, e, c, X, C, g, h => by
    unfold okE at h
    obtain ⟨h1, h2⟩ := soF f g h
    exact .simple (s_fl h1) h2
  | .fm f, e, c, X, C, g, h => by
    unfold okE at h
    obtain ⟨h1, h2⟩ := soF f g h
    exact .simple (s_fm h1) h2
  | .ix a b, e, c, X, C, g, h => by
    unfold okE at h
    split at h
    · obtain ⟨h1, h⟩ := ba2 h
      obtain ⟨h2, h3⟩ := ba2 h
      exact .simple (s_ix g.ok (soE a g h2).pe (soE b g h3).pe (bnot h1)) rfl
    · cases h
  | .sl a lo hi, e, c, X, C, g, h => by
    unfold okE at h
    split at h
    · obtain ⟨h1, h⟩ := ba2 h
      obtain ⟨h2, h3⟩ := ba2 h
      exact .simple (s_sl (soE a g h1).pe (part_ok h2 fun x hx => (soE lo g hx).pe) (part_ok h3 fun x hx => (soE hi g hx).pe)) rfl
    · cases h
  | .rev a, e, c, X, C, g, h => by
    unfold okE at h
    split at h
    · exact .simple (s_rev (soE a g h).pe) rfl
    · cases h
  | .nop, e, c, X, C, g, h => by
    unfold okE at h
    cases h
  | .call f as, e, c, X, C, g, h => by
    unfold okE at h
    split at h
    · obtain ⟨h1, h⟩ := ba2 h
      obtain ⟨h2, h⟩ := ba2 h
      obtain ⟨h3, h4⟩ := ba2 h
      have sa := soEs as g h4
      exact .simple (s_call (g.gl _ _ (of_decide_eq_true h1)) (g.isGl h2) (bnot h3) sa.pa sa.ns) rfl
    · cases h
  | .callP f as, e, c, X, C, g, h => by
    unfold okE at h
    split at h
    · obtain ⟨h1, h⟩ := ba2 h
      obtain ⟨h2, h⟩ := ba2 h
      obtain ⟨h3, h4⟩ := ba2 h
      have sa := soEs as g h4
      exact .simple (s_callP (g.gl _ _ (of_decide_eq_true h1)) (g.isGl h2) (bnot h3) sa.pa sa.ns) rfl
    · cases h
  | .prim p (.cons a .nil), e, c, X, C, g, h => by
    unfold okE at h
    simp only at h
    split at h
    · obtain ⟨h1, h⟩ := ba2 h
      obtain ⟨h2, h⟩ := ba2 h
      obtain ⟨h3, h⟩ := ba2 h
      obtain ⟨h4, h⟩ := ba2 h
      obtain ⟨h5, h6⟩ := ba2 h
      obtain ⟨q1, q2⟩ := g.isFr h2
      obtain ⟨q3, q4⟩ := g.isFr h4
      exact .simple (isin_ok (of_decide_eq_true h1) h3 q1 q2 q3 q4 (soE a g h6).pe (bnot h5)) rfl
    · split at h
      · obtain ⟨h1, h⟩ := ba2 h
        obtain ⟨h2, h⟩ := ba2 h
        obtain ⟨h3, h⟩ := ba2 h
        obtain ⟨h4, h⟩ := ba2 h
        obtain ⟨h5, h6⟩ := ba2 h
        obtain ⟨q1, q2⟩ := g.isFr h2
        obtain ⟨q3, q4⟩ := g.isFr h4
        have := of_decide_eq_true h1
        subst this
        have := of_decide_eq_true h3
        subst this
        exact .simple (s_lrg1 g.ok q1 q2 q3 q4 (soE a g h6).pe (bnot h5)) rfl
      · obtain ⟨h1, h⟩ := ba2 h
        obtain ⟨h2, h⟩ := ba2 h
        obtain ⟨h3, h⟩ := ba2 h
        obtain ⟨h4, h⟩ := ba2 h
        obtain ⟨h5, h6⟩ := ba2 h
        obtain ⟨q1, q2⟩ := g.isFr h2
        obtain ⟨q3, q4⟩ := g.isFr h4
        have := of_decide_eq_true h1
        subst this
        have := of_decide_eq_true h3
        subst this
        exact .simple (s_trg1 g.ok q1 q2 q3 q4 (soE a g h6).pe (bnot h5)) rfl
      · obtain ⟨h1, h⟩ := ba2 h
        obtain ⟨h2, h⟩ := ba2 h
        obtain ⟨h3, h4⟩ := ba2 h
        obtain ⟨q1, q2⟩ := g.isFr h2
        exact .simple (prim_ok g.ok (of_decide_eq_true h1) q1 q2 (s_cons (soE a g h4).pe s_nil (star_of (bnot h3))) (bnot h3) rfl) rfl
    · obtain ⟨h1, h⟩ := ba2 h
      obtain ⟨h2, h⟩ := ba2 h
      obtain ⟨h3, h4⟩ := ba2 h
      obtain ⟨q1, q2⟩ := g.isFr h2
      exact .simple (prim_ok g.ok (of_decide_eq_true h1) q1 q2 (s_cons (soE a g h4).pe s_nil (star_of (bnot h3))) (bnot h3) rfl) rfl
    · cases h
  | .prim p (.cons a (.cons b .nil)), e, c, X, C, g, h => by
    unfold okE at h
    simp only at h
    split at h
    · split at h
      · obtain ⟨h1, h⟩ := ba2 h
        obtain ⟨h2, h⟩ := ba2 h
        obtain ⟨h3, h⟩ := ba2 h
        obtain ⟨h4, h⟩ := ba2 h
        obtain ⟨h5, h⟩ := ba2 h
        obtain ⟨h6, h⟩ := ba2 h
        obtain ⟨h7, h8⟩ := ba2 h
        obtain ⟨q1, q2⟩ := g.isFr h2
        obtain ⟨q3, q4⟩ := g.isFr h4
        have := of_decide_eq_true h1
        subst this
        have := of_decide_eq_true h3
        subst this
        exact .simple (s_lrg2 g.ok q1 q2 q3 q4 (soE a g h7).pe (soE b g h8).pe (bnot h5) (bnot h6)) rfl
      · obtain ⟨h1, h⟩ := ba2 h
        obtain ⟨h2, h⟩ := ba2 h
        obtain ⟨h3, h⟩ := ba2 h
        obtain ⟨h4, h⟩ := ba2 h
        obtain ⟨h5, h⟩ := ba2 h
        obtain ⟨h6, h⟩ := ba2 h
        obtain ⟨h7, h8⟩ := ba2 h
        obtain ⟨q1, q2⟩ := g.isFr h2
        obtain ⟨q3, q4⟩ := g.isFr h4
        have := of_decide_eq_true h1
        subst this
        have := of_decide_eq_true h3
        subst this
        exact .simple (s_trg2 g.ok q1 q2 q3 q4 (soE a g h7).pe (soE b g h8).pe (bnot h5) (bnot h6)) rfl
      · cases h
    · obtain ⟨h1, h⟩ := ba2 h
      obtain ⟨h2, h⟩ := ba2 h
      obtain ⟨h3, h⟩ := ba2 h
      obtain ⟨h4, h⟩ := ba2 h
      obtain ⟨h5, h6⟩ := ba2 h
      obtain ⟨q1, q2⟩ := g.isFr h2
      exact .simple (prim_ok g.ok (of_decide_eq_true h1) q1 q2 (s_cons (soE a g h5).pe (s_cons (soE b g h6).pe s_nil (star_of (bnot h4))) (star_of (bnot h3))) (bnot h3) (by rw [List.any_cons, bnot h4]; rfl)) rfl
    · cases h
  | .prim p .nil, e, c, X, C, g, h => by
    unfold okE at h
    cases h
  | .prim p (.cons a (.cons b (.cons d r))), e, c, X, C, g, h => by
    unfold okE at h
    cases h
  | .mcnt _ _, e, c, X, C, g, h => by
    unfold okE at h
    cases h
  | .midx _ _, e, c, X, C, g, h => by
    unfold okE at h
    cases h
  | .dic ks as, e, c, X, C, g, h => by
    unfold okE at h
    split at h
    · obtain ⟨h1, h⟩ := ba2 h
      obtain ⟨h2, h⟩ := ba2 h
      obtain ⟨h3, h⟩ := ba2 h
      obtain ⟨h4, h5⟩ := ba2 h
      have sa := soEs as g h5
      have hl := of_decide_eq_true h4
      have h3 := Nat.le_of_ble_eq_true h3
      obtain ⟨q1, q2, q3⟩ := pps_all (of_decide_eq_true h1) sa hl
      have := s_dic q1 q3 (by rw [q2]; exact hl) (by simp) (by rw [q2]; exact h3) (by rw [toCs_len sa]; exact hl) h3 h2
      rw [foldC_toCs] at this
      exact .simple this rfl
    · cases h
  | .dit, e, c, X, C, g, h => by
    unfold okE at h
    split at h
    · exact .simple s_dit rfl
    · cases h
  | .frz a, e, c, X, C, g, h => by
    unfold okE at h
    obtain ⟨h1, h2⟩ := ba2 h
    exact .simple (s_frzE (soE a g h2).pe) h1
theorem soEs : ∀ (as : Es) {es : List Expr} {c : Ck} {X : Cx} {C : Orc}, Ag X C c → okEs c as es = true → AllSE X C as es
  | .nil, es, c, X, C, g, h => by
    unfold okEs at h
    split at h
    · exact .nil
    · cases h
  | .cons a as, es, c, X, C, g, h => by
    unfold okEs at h
    split at h
    · obtain ⟨h1, h⟩ := ba2 h
      obtain ⟨h2, h3⟩ := ba2 h
      exact .cons (bnot h1) (soE a g h2) (soEs as g h3)
    · cases h
theorem soF : ∀ (f : F) {e : Expr} {c : Ck} {X : Cx} {C : Orc}, Ag X C c → okF c f e = true → PE X e (tF X.K (evF C f)) ∧ simpleT e = true
  | .disp as, e, c, X, C, g, h => by
    unfold okF at h
    split at h
    · exact ⟨s_disp (soEs as g h).pa, rfl⟩
    · cases h
  | .comp own a t i q, e, c, X, C, g, h => by
    unfold okF at h
    split at h
    · rename_i elt tg iter ifs scope pos
      obtain ⟨h1, h⟩ := ba2 h
      obtain ⟨h2, h⟩ := ba2 h
      obtain ⟨h3, h⟩ := ba2 h
      obtain ⟨h4, h5⟩ := ba2 h
      have ok := blkOk_by h1
      have hi := soI i g h4
      refine ⟨?_, rfl⟩
      have ok' : BlkOk X.N X.env.scope scope (ownN c.N own) := by rw [g.N, g.sc]; exact ok
      have := s_comp (X := X) (pos := pos) (ce := ev C a) (cg := evT C t) (ci := evI C i) (tc := condOf q (ev C q)) g.ok hi.1 ok'
        (fun s H D cl fp => by
          have := soT t (P := some own) (g.inner (s := s) (H := H) (D := D) (cl := cl) (fp := fp) ok.kind) h3
          rw [ownN_ix]
          exact this)
        (fun s H D cl fp => cond_ok h5 fun x h6 h7 => (soE q (g.inner (s := s) (H := H) (D := D) (cl := cl) (fp := fp) ok.kind) h7).pt h6)
        (fun s H D cl fp => (soE a (g.inner (s := s) (H := H) (D := D) (cl := cl) (fp := fp) ok.kind) h2).pe) (folded_ok hi.2)
      rw [ownN_ix] at this
      exact this
    · cases h
  | .rep f b, e, c, X, C, g, h => by
    unfold okF at h
    split at h
    · obtain ⟨h1, h2⟩ := ba2 h
      exact ⟨s_rep (soF f g h1).1 (soE b g h2).pe, rfl⟩
    · cases h
  | .lof a, e, c, X, C, g, h => by
    unfold okF at h
    split at h
    · obtain ⟨h1, h⟩ := ba2 h
      obtain ⟨h2, h⟩ := ba2 h
      obtain ⟨h3, h4⟩ := ba2 h
      obtain ⟨q1, q2⟩ := g.isFr h2
      have := of_decide_eq_true h1
      subst this
      exact ⟨s_lof q1 q2 (soE a g h4).pe (bnot h3), rfl⟩
    · cases h
  | .ofE _, e, c, X, C, g, h => by
    unfold okF at h
    cases h
theorem soT : ∀ (t : T) {P : Option (List Nat)} {e : Expr} {c : Ck} {X : Cx} {C : Orc}, Ag X C c → okT c P t e = true → PG X e (tG X.K (PP P) (evT C t))
  | .nm i, P, e, c, X, C, g, h => by
    unfold okT at h
    split at h
    · rename_i x pos
      obtain ⟨h1, h⟩ := ba2 h
      obtain ⟨h2, h3⟩ := ba2 h
      have hN := of_decide_eq_true h1
      have hl : Loc X.env.scope x ∧ (X.fn x = true ∨ X.env.scope.names.lookup x = some .local) := by
        rw [g.sc]
        rw [Bool.or_eq_true] at h2
        rcases h2 with h2 | h2
        · have := of_decide_eq_true h2
          exact ⟨.inl this, .inr this⟩
        · obtain ⟨h4, h5⟩ := ba2 h2
          exact ⟨.inr (of_decide_eq_true h4), .inl (g.fn x h5)⟩
      refine g_name g.ok (by rw [g.N]; exact hN) hl.1 hl.2 ?_
      cases P with
      | none => exact fun _ _ => trivial
      | some vs => exact fun σ v => wipe_set (of_decide_eq_true h3)
    · cases h
  | .tp ts, P, e, c, X, C, g, h => by
    unfold okT at h
    split at h
    · obtain ⟨h1, h2, h3⟩ := soTs ts g h
      exact g_tup g.ok h1 h2 rfl h3
    · cases h
  | .sb o i, P, e, c, X, C, g, h => by
    unfold okT at h
    split at h
    · obtain ⟨h1, h⟩ := ba2 h
      obtain ⟨h2, h3⟩ := ba2 h
      exact g_sub (pk_PP P) g.ok (soE o g h2).pe (soE i g h3).pe (bnot h1)
    · cases h
theorem soTs : ∀ (ts : Ts) {P : Option (List Nat)} {es : List Expr} {c : Ck} {X : Cx} {C : Orc}, Ag X C c → okTs c P ts es = true → TsOk X C P ts es
  | .nil, P, es, c, X, C, g, h => by
    unfold okTs at h
    split at h
    · exact ⟨g_nil (pk_PP P), takes_nil, rfl⟩
    · cases h
  | .cons t ts, P, es, c, X, C, g, h => by
    unfold okTs at h
    split at h
    · obtain ⟨h1, h⟩ := ba2 h
      obtain ⟨h2, h3⟩ := ba2 h
      obtain ⟨q1, q2, q3⟩ := soTs ts g h3
      exact ⟨g_cons (pk_PP P) (soT t g h2) q1 (bnot h1), takes_cons q2, by rw [List.any_cons, bnot h1, Bool.false_or]; exact q3⟩
    · cases h
theorem soI : ∀ (i : I) {tg e : Expr} {c : Ck} {X : Cx} {C : Orc}, Ag X C c → okI c tg i e = true → PI X tg e (tI X.K (evI C i)) ∧ notSet e = true
  | .r1 a, tg, e, c, X, C, g, h => by
    unfold okI at h
    split at h
    · obtain ⟨h1, h⟩ := ba2 h
      obtain ⟨h2, h⟩ := ba2 h
      obtain ⟨h3, h4⟩ := ba2 h
      obtain ⟨q1, q2⟩ := g.isFr h2
      have := of_decide_eq_true h1
      subst this
      exact ⟨i_r1 q1 q2 (soE a g h4).pe (bnot h3), rfl⟩
    · cases h
  | .r2 a b, tg, e, c, X, C, g, h => by
    unfold okI at h
    split at h
    · obtain ⟨h1, h⟩ := ba2 h
      obtain ⟨h2, h⟩ := ba2 h
      obtain ⟨h3, h⟩ := ba2 h
      obtain ⟨h4, h⟩ := ba2 h
      obtain ⟨h5, h6⟩ := ba2 h
      obtain ⟨q1, q2⟩ := g.isFr h2
      have := of_decide_eq_true h1
      subst this
      exact ⟨i_r2 q1 q2 (soE a g h5).pe (soE b g h6).pe (bnot h3) (bnot h4), rfl⟩
    · cases h
  | .r3 a b d, tg, e, c, X, C, g, h => by
    unfold okI at h
    split at h
    · obtain ⟨h1, h⟩ := ba2 h
      obtain ⟨h2, h⟩ := ba2 h
      obtain ⟨h3, h⟩ := ba2 h
      obtain ⟨h4, h⟩ := ba2 h
      obtain ⟨h5, h⟩ := ba2 h
      obtain ⟨h6, h⟩ := ba2 h
      obtain ⟨h7, h8⟩ := ba2 h
      obtain ⟨q1, q2⟩ := g.isFr h2
      have := of_decide_eq_true h1
      subst this
      exact ⟨i_r3 q1 q2 (soE a g h6).pe (soE b g h7).pe (soE d g h8).pe (bnot h3) (bnot h4) (bnot h5), rfl⟩
    · cases h
  | .sq a, tg, e, c, X, C, g, h => by
    unfold okI at h
    obtain ⟨h1, h2⟩ := ba2 h
    exact ⟨i_sq (soE a g h2).pe, h1⟩
  | .z2 a b, tg, e, c, X, C, g, h => by
    unfold okI at h
    split at h
    · split at h
      · obtain ⟨h1, h⟩ := ba2 h
        obtain ⟨h2, h⟩ := ba2 h
        obtain ⟨h3, h⟩ := ba2 h
        obtain ⟨h4, h⟩ := ba2 h
        obtain ⟨h5, h6⟩ := ba2 h
        obtain ⟨q1, q2⟩ := g.isFr h2
        have := of_decide_eq_true h1
        subst this
        exact ⟨i_z2 q1 q2 (soE a g h5).pe (soE b g h6).pe (bnot h3) (bnot h4), rfl⟩
      · cases h
    · cases h
  | .z3 _ _ _, tg, e, c, X, C, g, h => by
    unfold okI at h
    cases h
end
end MP

namespace MP
open PySem PySem.Spec L2
open PyProof.Rows hiding St

section
variable {X : Cx} {C : Orc} {c : Ck}
theorem Ag.bk (g : Ag X C c) : X.env.blockKind = .function := by
  unfold Env.blockKind
  rw [g.ok.kind]
  rfl
theorem Ag.ko (g : Ag X C c) (x : Str) : X.env.kindOf x = c.sc.names.lookup x := by
  show X.env.scope.names.lookup x = _
  rw [g.sc]
theorem noComp_sw {e : Expr} {l : Nat} {env : Env} {t : Option Expr} (h : noComp e = true) : swapsWith e t l env = pure false := by
  cases e <;> first
    | rfl
    | cases h
theorem swaps_no (g : Ag X C c) {v tg : Expr} {l : Nat} (hk : notSD v = true) (h : swaps c v tg = false) : swapsWithSole [tg] v l X.env = pure false := by
  have ko := g.ko
  have bk := g.bk
  show swapsWith v (some tg) l X.env = pure false
  cases v with
  | ListComp elt gs scope p =>
    cases tg with
    | Name t py =>
      have e : swapsWith (.ListComp elt gs scope p) (some (.Name t py)) l X.env = pure (X.env.blockKind == .function && X.env.kindOf t == some .local && py.line == p.line && !(scope.names.any fun (n, k) => n == t && (k == .local || k == .cell))) := rfl
      rw [e, bk, ko t]
      have h : (decide (c.sc.names.lookup t = some .local) && ((py.line == p.line) && !(scope.names.any fun (n, k) => n == t && (k == .local || k == .cell)))) = false := h
      congr 1
      by_cases h1 : c.sc.names.lookup t = some .local
      · rw [h1] at h ⊢
        simp only [decide_true, Bool.true_and] at h
        simp only [beq_self_eq_true, Bool.true_and]
        exact h
      · have : (c.sc.names.lookup t == some NameKind.local) = false := by
          cases q : (c.sc.names.lookup t == some NameKind.local) with
          | false => rfl
          | true => exact absurd (eq_of_beq q) h1
        rw [this]
        simp
    | _ => rfl
  | SetComp => cases hk
  | DictComp => cases hk
  | _ => rfl
theorem star_any (vs : List Expr) : (vs.any fun | .Starred .. => true | _ => false) = vs.any isStar := by
  congr 1
theorem swS_some {ts vs : List Expr} {k k2 : Nat} {p p2 : Pos} (g : Ag X C c) (hs : vs.any isStar = false) (h : isSw c ts vs = true) (hl : ts.length = 2 ∨ ts.length = 3) (hv : vs.length = ts.length) (hn : (swN c ts).length = ts.length) (hd : (swN c ts).eraseDups.length = (swN c ts).length) :
    swappedStores [.Tuple ts k p] (.Tuple vs k2 p2) X.env = pure (some (swN c ts)) := by
  have bk := g.bk
  obtain ⟨h1, h2⟩ := ba2 h
  have h1 := bnot h1
  have h2 := bnot h2
  have hl' : (ts.length == 2 || ts.length == 3) = true := by rcases hl with e | e <;> rw [e] <;> rfl
  have hv' : (vs.length != ts.length) = false := by rw [hv]; simp
  unfold swappedStores
  simp only [hl', hv', bk, h1, h2]
  generalize hq : List.filterMap _ ts = names
  have en : names = swN c ts := by
    rw [← hq]
    unfold swN
    congr 1
    funext x
    cases x <;> first
      | rfl
      | (simp only [g.ko, swN1])
  subst en
  rw [if_neg (by decide), if_neg (fun z => by have z' : vs.any isStar = true := z; rw [hs] at z'; cases z')]
  rw [if_neg (by simp [hn, hd]), if_neg (by decide), if_neg (by decide)]
theorem swS_none {ts vs : List Expr} {k k2 : Nat} {p p2 : Pos} (g : Ag X C c) (hs : vs.any isStar = false) (h : noSw c ts vs = true) : swappedStores [.Tuple ts k p] (.Tuple vs k2 p2) X.env = pure none := by
  have bk := g.bk
  unfold swappedStores
  simp only [bk]
  generalize hq : List.filterMap _ ts = names
  have en : names = swN c ts := by
    rw [← hq]
    unfold swN
    congr 1
    funext x
    cases x <;> first
      | rfl
      | (simp only [g.ko, swN1])
  subst en
  unfold noSw at h
  rw [Bool.or_eq_true] at h
  by_cases q1 : (!(ts.length == 2 || ts.length == 3) || vs.length != ts.length || ScopeKind.function != ScopeKind.function) = true
  · rw [if_pos q1]
  · rw [if_neg q1, if_neg (fun z => by have z' : vs.any isStar = true := z; rw [hs] at z'; cases z')]
    rcases h with h | h
    · exact absurd (by rw [h]; rfl) q1
    · rw [Bool.or_eq_true] at h
      rcases h with h | h
      · rw [if_pos (by rw [h]; rfl)]
      · split
        · rfl
        · first
            | rfl
            | rw [if_pos h]
theorem swS_not {tg v : Expr} (h : (isTL tg && isTu v) = false) : swappedStores [tg] v X.env = pure none := by
  cases v <;> first
    | rfl
    | (cases tg <;> first
        | rfl
        | cases h)
theorem bas_of {a : Expr} {m : Str} (h : plainR a = true) : attributeBase a m X.env (eval a X.env) = eval a X.env := by
  cases a <;> first
    | rfl
    | cases h
theorem loc_of (g : Ag X C c) {i : Nat} {x : Str} (h : locN c i x = true) : X.N[i]? = some x ∧ X.env.scope.names.lookup x = some .local ∧ c.sc.names.lookup x = some .local := by
  obtain ⟨h1, h2⟩ := ba2 h
  have h2 := of_decide_eq_true h2
  exact ⟨by rw [g.N]; exact of_decide_eq_true h1, by rw [g.sc]; exact h2, h2⟩
theorem swN1_of {l : Nat} {x : Str} {p : Pos} (hx : c.sc.names.lookup x = some .local) (hp : (p.line == l) = true) : swN1 c l (.Name x p) = some x := by
  show (if (c.sc.names.lookup x == some .local && p.line == l) = true then some x else none) = some x
  rw [hx, hp]
  rfl
theorem swN2 {x y : Str} {px py : Pos} (hx : c.sc.names.lookup x = some .local) (hy : c.sc.names.lookup y = some .local) (hp : (py.line == px.line) = true) : swN c [.Name x px, .Name y py] = [x, y] := by
  show List.filterMap (swN1 c px.line) [.Name x px, .Name y py] = _
  simp only [List.filterMap_cons, swN1_of hx (p := px) (l := px.line) (by simp), swN1_of hy hp, List.filterMap_nil]
theorem swN3 {x y z : Str} {px py pz : Pos} (hx : c.sc.names.lookup x = some .local) (hy : c.sc.names.lookup y = some .local) (hz : c.sc.names.lookup z = some .local) (hp : (py.line == px.line) = true) (hp2 : (pz.line == px.line) = true) : swN c [.Name x px, .Name y py, .Name z pz] = [x, y, z] := by
  show List.filterMap (swN1 c px.line) [.Name x px, .Name y py, .Name z pz] = _
  simp only [List.filterMap_cons, swN1_of hx (p := px) (l := px.line) (by simp), swN1_of hy hp, swN1_of hz hp2, List.filterMap_nil]
theorem par_ok (g : Ag X C c) {ts : Ts} {as : Es} {tgs es : List Expr} {k k2 : Nat} {p2 p3 pos : Pos} (h1 : okTs c none ts tgs = true) (h2 : AllSE X C as es) (h3 : (okPar c ts tgs es || (noSw c tgs es && Nat.ble tgs.length 1000)) = true) :
    PS X (.Assign [.Tuple tgs k p2] (.Tuple es k2 p3) pos) (tS X.K (sPar (evTs C ts) (evs C as))) := by
  rw [Bool.or_eq_true] at h3
  rcases h3 with h3 | h3
  · unfold okPar at h3
    split at h3
    · rename_i i j
      split at h3
      · rename_i x px y py
        obtain ⟨q1, h⟩ := ba2 h3
        obtain ⟨q2, h⟩ := ba2 h
        obtain ⟨q3, h⟩ := ba2 h
        obtain ⟨q4, h⟩ := ba2 h
        obtain ⟨q5, h⟩ := ba2 h
        obtain ⟨q6, q7⟩ := ba2 h
        obtain ⟨l1, l2, l3⟩ := loc_of g q1
        obtain ⟨m1, m2, m3⟩ := loc_of g q2
        have hl := of_decide_eq_true q6
        obtain ⟨a, b, rfl⟩ : ∃ a b, es = [a, b] := by
          match es, hl with
          | [a, b], _ => exact ⟨a, b, rfl⟩
        have hn := swN2 l3 m3 q3
        have hd : (swN c [.Name x px, .Name y py]).eraseDups.length = (swN c [.Name x px, .Name y py]).length := by
          rw [hn]
          have : (y == x) = false := by
            have q5 := bnot q5
            cases q : (y == x) with
            | false => rfl
            | true => rw [eq_of_beq q] at q5; simp at q5
          simp [List.eraseDups, List.eraseDupsBy, List.eraseDupsBy.loop, this]
        have sw := swS_some (k := k) (k2 := k2) (p := p2) (p2 := p3) g h2.ns q7 (.inl rfl) rfl (by rw [hn]; rfl) hd
        rw [hn] at sw
        exact s_par2 g.ok l1 m1 (of_decide_eq_false (bnot q4)) l2 m2 h2.pa sw
      · cases h3
    · rename_i i j l
      split at h3
      · rename_i x px y py z pz
        obtain ⟨q1, h⟩ := ba2 h3
        obtain ⟨q2, h⟩ := ba2 h
        obtain ⟨q2b, h⟩ := ba2 h
        obtain ⟨q3, h⟩ := ba2 h
        obtain ⟨q3b, h⟩ := ba2 h
        obtain ⟨q4, h⟩ := ba2 h
        obtain ⟨q4b, h⟩ := ba2 h
        obtain ⟨q4c, h⟩ := ba2 h
        obtain ⟨q5, h⟩ := ba2 h
        obtain ⟨q5b, h⟩ := ba2 h
        obtain ⟨q5c, h⟩ := ba2 h
        obtain ⟨q6, q7⟩ := ba2 h
        obtain ⟨l1, l2, l3⟩ := loc_of g q1
        obtain ⟨m1, m2, m3⟩ := loc_of g q2
        obtain ⟨n1, n2, n3⟩ := loc_of g q2b
        have hl := of_decide_eq_true q6
        obtain ⟨a, b, d, rfl⟩ : ∃ a b d, es = [a, b, d] := by
          match es, hl with
          | [a, b, d], _ => exact ⟨a, b, d, rfl⟩
        have hn := swN3 l3 m3 n3 q3 q3b
        have flip : ∀ {x y : Str}, (!(x == y)) = true → (y == x) = false := fun {x y} h => by
          have h := bnot h
          cases q : (y == x) with
          | false => rfl
          | true => rw [eq_of_beq q] at h; simp at h
        have hd : (swN c [.Name x px, .Name y py, .Name z pz]).eraseDups.length = (swN c [.Name x px, .Name y py, .Name z pz]).length := by
          rw [hn]
          simp [List.eraseDups, List.eraseDupsBy, List.eraseDupsBy.loop, flip q5, flip q5b, flip q5c]
        have sw := swS_some (k := k) (k2 := k2) (p := p2) (p2 := p3) g h2.ns q7 (.inr rfl) rfl (by rw [hn]; rfl) hd
        rw [hn] at sw
        exact s_par3 g.ok l1 m1 n1 (of_decide_eq_false (bnot q4)) (of_decide_eq_false (bnot q4b)) (of_decide_eq_false (bnot q4c)) l2 m2 n2 h2.pa sw
      · cases h3
    · cases h3
  · obtain ⟨q1, q2⟩ := ba2 h3
    obtain ⟨r1, r2, r3⟩ := soTs ts g h1
    exact s_parT g.ok h2.pa r1 r2 rfl (Nat.le_of_ble_eq_true q2) r3 (swS_none g h2.ns q1)
end
/-- name = [..] in one -/
theorem setLc_ok {X : Cx} {C : Orc} {c : Ck} (g : Ag X C c) (t : T) (a : E) {tg v : Expr} {pos : Pos} (h2 : okT c none t tg = true) (h3 : okE c a v = true) (hsw : swaps c v tg = true) (h5 : isLc a = true) : PS X (.Assign [tg] v pos) (tS X.K (sAsg (evT C t) (ev C a))) := by
  unfold swaps at hsw
  split at hsw
  · rename_i elt gs scope p
    split at hsw
    · rename_i y py
      obtain ⟨q1, q⟩ := ba2 hsw
      obtain ⟨q2, q3⟩ := ba2 q
      have q1 := of_decide_eq_true q1
      have hyl : X.env.scope.names.lookup y = some .local := by rw [g.sc]; exact q1
      cases t with
      | nm j =>
        unfold okT at h2
        obtain ⟨r1, _⟩ := ba2 h2
        have hN : X.N[j]? = some y := by rw [g.N]; exact of_decide_eq_true r1
        have go : ∀ (f : F) (fm : Bool), (match f with | .comp .. => true | _ => false) = true → okF c f (.ListComp elt gs scope p) = true → PS X (.Assign [.Name y py] (.ListComp elt gs scope p) pos) (tS X.K (sAsg (gNm j) (cond fm (cFm (evF C f)) (cFl (evF C f))))) := by
          intro f fm hf h
          cases f with
          | comp own ea et i q =>
            unfold okF at h
            split at h
            · rename_i elt' tg' iter' ifs' scope' pos' he
              cases he
              obtain ⟨h1, h⟩ := ba2 h
              obtain ⟨h2, h⟩ := ba2 h
              obtain ⟨h3, h⟩ := ba2 h
              obtain ⟨h4, h5⟩ := ba2 h
              have ok := blkOk_by h1
              have hi := soI i g h4
              have ok' : BlkOk X.N X.env.scope scope (ownN c.N own) := by rw [g.N, g.sc]; exact ok
              have := s_setLc (X := X) (pos := p) (spos := pos) (py := py) (fm := fm) (ce := ev C ea) (cg := evT C et) (ci := evI C i) (tc := condOf q (ev C q)) g.ok hN hyl q2 (bnot q3) hi.1 ok'
                (fun s H D cl fp => by
                  have := soT et (P := some own) (g.inner (s := s) (H := H) (D := D) (cl := cl) (fp := fp) ok.kind) h3
                  rw [ownN_ix]
                  exact this)
                (fun s H D cl fp => cond_ok h5 fun x h6 h7 => (soE q (g.inner (s := s) (H := H) (D := D) (cl := cl) (fp := fp) ok.kind) h7).pt h6)
                (fun s H D cl fp => (soE ea (g.inner (s := s) (H := H) (D := D) (cl := cl) (fp := fp) ok.kind) h2).pe) (folded_ok hi.2)
              rw [ownN_ix] at this
              exact this
            · cases h
          | _ => cases hf
        cases a with
        | fl f =>
          unfold okE at h3
          exact go f false (by cases f <;> first | rfl | cases h5) h3
        | fm f =>
          unfold okE at h3
          exact go f true (by cases f <;> first | rfl | cases h5) h3
        | _ => cases h5
      | tp ts => unfold okT at h2; cases h2
      | sb o i => unfold okT at h2; cases h2
    · cases hsw
  · cases hsw
mutual
theorem soS : ∀ (a : S) {s : Stmt} {c : Ck} {X : Cx} {C : Orc}, Ag X C c → okS c a s = true → PS X s (tS X.K (ex C a))
  | .asg t a, s, c, X, C, g, h => by
    unfold okS at h
    split at h
    · rename_i tg v pos
      obtain ⟨h0, h⟩ := ba2 h
      obtain ⟨h1, h⟩ := ba2 h
      obtain ⟨h2, h⟩ := ba2 h
      obtain ⟨h3, h⟩ := ba2 h
      obtain ⟨h4, h5⟩ := ba2 h
      have pt := soT t (P := none) g h2
      cases hsw : swaps c v tg with
      | false => exact s_asg (soE a g h3).pe pt (swaps_no g h0 hsw) (swS_not (bnot h4)) (bnot h1)
      | true =>
        rw [hsw, if_pos rfl] at h5
        exact setLc_ok g t a h2 h3 hsw h5
    · cases h
  | .par ts as, s, c, X, C, g, h => by
    unfold okS at h
    split at h
    · obtain ⟨h1, h⟩ := ba2 h
      obtain ⟨h2, h3⟩ := ba2 h
      exact par_ok g h1 (soEs as g h2) h3
    · cases h
  | .aug i o a, s, c, X, C, g, h => by
    unfold okS at h
    split at h
    · rename_i x p2 p v pos
      obtain ⟨h1, h⟩ := ba2 h
      obtain ⟨h2, h⟩ := ba2 h
      obtain ⟨h3, h4⟩ := ba2 h
      have := of_decide_eq_true h1
      subst this
      have hN := of_decide_eq_true h2
      have hl : Loc X.env.scope x ∧ (X.fn x = true ∨ X.env.scope.names.lookup x = some .local) := by
        rw [g.sc]
        rw [Bool.or_eq_true] at h3
        rcases h3 with h3 | h3
        · have := of_decide_eq_true h3
          exact ⟨.inl this, .inr this⟩
        · obtain ⟨h5, h6⟩ := ba2 h3
          exact ⟨.inr (of_decide_eq_true h5), .inl (g.fn x h6)⟩
      exact s_aug g.ok (by rw [g.N]; exact hN) hl.1 hl.2 (soE a g h4).pe
    · cases h
  | .augS a b o d, s, c, X, C, g, h => by
    unfold okS at h
    split at h
    · obtain ⟨h1, h⟩ := ba2 h
      obtain ⟨h2, h⟩ := ba2 h
      obtain ⟨h3, h⟩ := ba2 h
      obtain ⟨h4, h5⟩ := ba2 h
      have := of_decide_eq_true h1
      subst this
      exact s_augS g.ok (soE a g h3).pe (soE b g h4).pe (soE d g h5).pe (bnot h2)
    · cases h
  | .ife t a b, s, c, X, C, g, h => by
    unfold okS at h
    split at h
    · obtain ⟨h1, h⟩ := ba2 h
      obtain ⟨h2, h⟩ := ba2 h
      obtain ⟨h3, h4⟩ := ba2 h
      exact s_ifS ((soE t g h2).pt h1) (soSs a g h3) (soSs b g h4)
    · cases h
  | .whl t b, s, c, X, C, g, h => by
    unfold okS at h
    split at h
    · obtain ⟨h1, h⟩ := ba2 h
      obtain ⟨h2, h3⟩ := ba2 h
      exact s_while g.ok ((soE t g h2).pt h1) (soSs b g h3)
    · cases h
  | .for_ t i b, s, c, X, C, g, h => by
    unfold okS at h
    split at h
    · obtain ⟨h1, h⟩ := ba2 h
      obtain ⟨h2, h3⟩ := ba2 h
      obtain ⟨q1, q2⟩ := soI i g h1
      exact s_for g.ok q1 (soT t (P := none) g h2) (soSs b g h3) (folded_ok q2)
    · cases h
  | .ret a, s, c, X, C, g, h => by
    unfold okS at h
    split at h
    · exact s_ret (soE a g h).pe
    · cases h
  | .retN, s, c, X, C, g, h => by
    unfold okS at h
    split at h
    · exact s_retN
    · cases h
  | .brk, s, c, X, C, g, h => by
    unfold okS at h
    split at h
    · exact s_break
    · cases h
  | .cnt, s, c, X, C, g, h => by
    unfold okS at h
    split at h
    · exact s_continue
    · cases h
  | .pas, s, c, X, C, g, h => by
    unfold okS at h
    split at h
    · exact s_pass
    · exact s_doc
    · cases h
  | .exp a, s, c, X, C, g, h => by
    unfold okS at h
    split at h
    · obtain ⟨h1, h2⟩ := ba2 h
      exact s_expr (soE a g h2).pe (noComp_sw h1)
    · cases h
  | .app a b, s, c, X, C, g, h => by
    unfold okS at h
    split at h
    · obtain ⟨h1, h⟩ := ba2 h
      obtain ⟨h2, h⟩ := ba2 h
      obtain ⟨h3, h⟩ := ba2 h
      obtain ⟨h4, h⟩ := ba2 h
      obtain ⟨h5, h6⟩ := ba2 h
      have := of_decide_eq_true h1
      subst this
      exact s_app (soE a g h5).pe (soE b g h6).pe (bnot h4) (bas_of h2) h3
    · cases h
  | .ext a b, s, c, X, C, g, h => by
    unfold okS at h
    split at h
    · obtain ⟨h1, h⟩ := ba2 h
      obtain ⟨h2, h⟩ := ba2 h
      obtain ⟨h3, h⟩ := ba2 h
      obtain ⟨h4, h⟩ := ba2 h
      obtain ⟨h5, h6⟩ := ba2 h
      have := of_decide_eq_true h1
      subst this
      exact s_ext (soE a g h5).pe (soE b g h6).pe (bnot h4) (bas_of h2) h3
    · cases h
  | .pop a, s, c, X, C, g, h => by
    unfold okS at h
    split at h
    · obtain ⟨h1, h⟩ := ba2 h
      obtain ⟨h2, h⟩ := ba2 h
      obtain ⟨h3, h4⟩ := ba2 h
      have := of_decide_eq_true h1
      subst this
      exact s_pop (soE a g h4).pe (bas_of h2) h3
    · cases h
  | .frz _, s, c, X, C, g, h => by
    unfold okS at h
    cases h
theorem soSs : ∀ (ss : Ss) {sts : List Stmt} {c : Ck} {X : Cx} {C : Orc}, Ag X C c → okSs c ss sts = true → PSs X sts (tS X.K (exs C ss))
  | .nil, sts, c, X, C, g, h => by
    unfold okSs at h
    split at h
    · exact s_done
    · cases h
  | .cons s ss, sts, c, X, C, g, h => by
    unfold okSs at h
    split at h
    · exact s_frz (soSs ss g h)
    · split at h
      · obtain ⟨h1, h2⟩ := ba2 h
        exact s_seq (soS s g h1) (soSs ss g h2)
      · cases h
end
end MP

namespace MP
open PySem PySem.Spec L2
open PyProof.Rows hiding St

/-! ### defs -/
structure FnT where
  name : Str
  params : Arguments
  body : List Stmt
  scope : Scope
  N : List Str
  ps : List Str
  fn : Fn
def ckOf (gl : List (Str × Nat)) (fr : List Str) (t : FnT) : Ck := ⟨t.N, t.scope, fun x => decide (t.scope.names.lookup x = some .cell), gl, fr⟩
def nodupB : List Str → Bool
  | [] => true
  | x :: xs => !(xs.any fun y => decide (y = x)) && nodupB xs
def okFn (gl : List (Str × Nat)) (fr : List Str) (t : FnT) : Bool :=
  (match t.scope.kind with | .function => true | _ => false) && (!t.scope.isCoroutine && (!t.scope.isGenerator && (nodupB t.N && (decide (t.N.take t.ps.length = t.ps) && ((t.ps.all fun x => match t.scope.names.lookup x with | some .local => true | some .cell => true | _ => false) &&
    ((t.scope.names.all fun y => match y.2 with | .free => false | _ => true) && (decide (t.fn.np = t.ps.length) && (decide (t.fn.ns = t.N.length) && okSs (ckOf gl fr t) t.fn.body t.body))))))))
theorem nodup_of : ∀ {xs : List Str}, nodupB xs = true → xs.Nodup
  | [], _ => List.nodup_nil
  | x :: xs, h => by
    obtain ⟨h1, h2⟩ := ba2 h
    rw [List.nodup_cons]
    refine ⟨fun z => ?_, nodup_of h2⟩
    have h1 := bnot h1
    have : (xs.any fun y => decide (y = x)) = true := List.any_eq_true.mpr ⟨x, z, by simp⟩
    rw [this] at h1
    cases h1
theorem fnScope_of {gl : List (Str × Nat)} {fr : List Str} {t : FnT} (h : okFn gl fr t = true) : FnScope t.N t.ps t.scope ∧ t.fn.np = t.ps.length ∧ t.fn.ns = t.N.length ∧ okSs (ckOf gl fr t) t.fn.body t.body = true := by
  unfold okFn at h
  obtain ⟨h1, h⟩ := ba2 h
  obtain ⟨h2, h⟩ := ba2 h
  obtain ⟨h3, h⟩ := ba2 h
  obtain ⟨h4, h⟩ := ba2 h
  obtain ⟨h5, h⟩ := ba2 h
  obtain ⟨h6, h⟩ := ba2 h
  obtain ⟨h7, h⟩ := ba2 h
  obtain ⟨h8, h⟩ := ba2 h
  obtain ⟨h9, h10⟩ := ba2 h
  refine ⟨⟨?_, bnot h2, bnot h3, nodup_of h4, of_decide_eq_true h5, fun x hx => ?_, fun y hy e => ?_⟩, of_decide_eq_true h8, of_decide_eq_true h9, h10⟩
  · cases hk : t.scope.kind with
    | function => rfl
    | _ => rw [hk] at h1; cases h1
  · have q := List.all_eq_true.mp h6 x hx
    split at q
    · exact .inl (by assumption)
    · exact .inr (by assumption)
    · cases q
  · have q := List.all_eq_true.mp h7 y hy
    rw [e] at q
    cases q
/-! ### the text's defs, each by what the oracle says -/
/-- what the head tells of one def -/
structure DefAt (K : PySem.W.Frag) (mg : Str → Option Value) (t : FnT) (f : Addr) (fd : FuncData) : Prop where
  fun_ : FunD K t.name t.name t.params t.body t.scope [] [] f fd
  mg : mg t.name = some (.ref f)
  bind : Binds K fd t.ps []
def glOf : Nat → List FnT → List (Str × Nat)
  | _, [] => []
  | i, t :: ts => (t.name, i) :: glOf (i + 1) ts
theorem glOf_get : ∀ {ts : List FnT} {i j : Nat} {x : Str}, (glOf i ts).lookup x = some j → ∃ t, ts[j - i]? = some t ∧ t.name = x ∧ i ≤ j
  | [], _, _, _, h => by cases h
  | t :: ts, i, j, x, h => by
    have h : List.lookup x ((t.name, i) :: glOf (i + 1) ts) = some j := h
    rw [List.lookup_cons] at h
    split at h
    · rename_i hb
      cases h
      exact ⟨t, by simp, (eq_of_beq hb).symm, Nat.le_refl _⟩
    · obtain ⟨t', h1, h2, h3⟩ := glOf_get h
      refine ⟨t', ?_, h2, by omega⟩
      have : j - i = (j - (i + 1)) + 1 := by omega
      rw [this]
      simpa using h1
section
variable {P : Program} {w : World} {K : PySem.W.Frag} {mg : Str → Option Value} {base : Heap} {ts : List FnT} {fr : List Str}
theorem start_sr {g : G} {H : Hp} {ws : List Vl} {vs : List V} {N : List Str} {n : Nat} (v : VRs K H g ws vs) (hn : n = N.length - vs.length) : SR K H g (ws.map some ++ List.replicate n none) (L2.start N vs) := by
  have hl := v.length
  unfold L2.start
  refine ⟨by rw [List.length_append, List.length_append, List.length_map, List.length_map, List.length_replicate, List.length_replicate, hl, hn], fun i x h => ?_⟩
  by_cases hi : i < ws.length
  · rw [List.getElem?_append_left (by rw [List.length_map]; exact hi), List.getElem?_map] at h
    obtain ⟨y, h1, h2⟩ := Option.map_eq_some_iff.mp h
    cases h2
    obtain ⟨u, h3, h4⟩ := v.get h1
    exact ⟨u, by rw [List.getElem?_append_left (by rw [List.length_map, ← hl]; exact hi), List.getElem?_map, h3]; rfl, h4⟩
  · rw [List.getElem?_append_right (by rw [List.length_map]; omega), List.getElem?_replicate] at h
    split at h
    · cases h
    · cases h
theorem run_k {C : Orc} {fn : Fn} {ws : List Vl} {h h' : Hm} {w : Vl} (e : runFn C fn ws h = some (w, h')) : ws.length = fn.np ∧ ∃ f, exs C fn.body (ws.map some ++ List.replicate (fn.ns - fn.np) none) h = some (f, h') ∧ ((f = .rt w) ∨ (∃ ρ, f = .nx ρ) ∧ w = .d .none) := by
  unfold runFn at e
  split at e
  · rename_i hl
    refine ⟨eq_of_beq hl, ?_⟩
    split at e
    · rename_i w' h2 e2
      cases e
      exact ⟨_, e2, .inl rfl⟩
    · rename_i ρ h2 e2
      cases e
      exact ⟨_, e2, .inr ⟨⟨ρ, rfl⟩, rfl⟩⟩
    · cases e
  · cases e
/-- EACH DEF KEEPS WHAT THE ORACLE SAYS -/
theorem fn_all (hd : ∀ (i : Nat) (t : FnT), ts[i]? = some t → ∃ f fd, DefAt K mg t f fd) (hf : ∀ x, fr.contains x = true → mg x = none) (ho : ∀ t ∈ ts, okFn (glOf 0 ts) fr t = true) :
    ∀ (k i : Nat) (t : FnT) (f : Addr) (fd : FuncData), ts[i]? = some t → DefAt K mg t f fd → FnOk P w K mg base CX0 k f fd t.ps (spF K (callL (ts.map (·.fn)) k) i)
  | 0, i, t, f, fd, hi, da => by
    refine ⟨fun vs H Q E h => ?_, fun A outer s H args us vs Q E _ _ _ _ h => ?_⟩
    · obtain ⟨g, ws, w, h', _, _, e, _⟩ := h
      cases e
    · obtain ⟨g, ws, w, h', _, _, e, _⟩ := h
      cases e
  | k + 1, i, t, f, fd, hi, da => by
    obtain ⟨S, hnp, hns, hok⟩ := fnScope_of (ho t (List.mem_of_getElem? hi))
    have hfn : (ts.map (·.fn))[i]? = some t.fn := by rw [List.getElem?_map, hi]; rfl
    have call : ∀ {ws h q}, callL (ts.map (·.fn)) (k + 1) i ws h = some q → runFn (callL (ts.map (·.fn)) k) t.fn ws h = some q := fun {ws h q} e => by
      have e' : (match (ts.map (·.fn))[i]? with
        | some fn => runFn (callL (ts.map (·.fn)) k) fn ws h
        | none => none) = some q := e
      rw [hfn] at e'
      exact e'
    refine da.fun_.ok S (fun vs H Q E h => ?_) (fun cdv A outer s H vs Q E hr h => ⟨tS K (exs (callL (ts.map (·.fn)) k) t.fn.body), PSs.nox ?_, ?_⟩)
    · obtain ⟨g, ws, w, h', v, _, e, _⟩ := h
      obtain ⟨hl, _⟩ := run_k (call e)
      rw [← v.length, hl, hnp]
    · refine soSs t.fn.body (c := ckOf (glOf 0 ts) fr t) ⟨⟨S.nd, rfl, rfl, ?_, S.kind⟩, rfl, rfl, fun _ _ => rfl, hf, fun x j hx => ?_⟩ hok
      · have := hr.un
        show (A.deeper _).units + 200 < cLine
        omega
      · obtain ⟨t', h1, h2, _⟩ := glOf_get hx
        obtain ⟨f', fd', da'⟩ := hd j t' (by simpa using h1)
        subst h2
        exact ⟨f', fd', t'.ps, k, fn_all hd hf ho k j t' f' fd' (by simpa using h1) da', hr, da'.mg, da'.fun_.kp, da'.bind⟩
    · obtain ⟨g, ws, w, h', v, R, e, q⟩ := h
      obtain ⟨hl, fl, e2, hw⟩ := run_k (call e)
      have hlv := v.length
      refine ⟨g, _, fl, h', start_sr v (by rw [hns, hnp, ← hlv, hl, hnp]), R, e2, fun g' H' eg x r' => ?_⟩
      rcases hw with rfl | ⟨⟨ρ, rfl⟩, rfl⟩
      · exact fun u vu => q g' u H' eg x r' vu
      · exact fun σ s => q g' .non H' eg x r' (.d .non)
end
end MP

namespace MP
open PySem PySem.Spec L2

/-! ### runs, by hand -/
/-- a for loop by an invariant; the body goes on -/
theorem forRun {g : Cg} {b : Cs} (P : Nat → Env' → Hm → Prop) : ∀ (xs : List Vl) (i : Nat) (ρ : Env') (h : Hm), P i ρ h →
    (∀ (j : Nat) (x : Vl) (ρ : Env') (h : Hm), xs[j]? = some x → P (i + j) ρ h → ∃ ρ1 h1, g x ρ h = some (ρ1, h1) ∧ ∃ ρ2 h2, (b ρ1 h1 = some (.nx ρ2, h2) ∨ b ρ1 h1 = some (.ct ρ2, h2)) ∧ P (i + j + 1) ρ2 h2) →
    ∃ ρ' h', iterF g b xs ρ h = some (.nx ρ', h') ∧ P (i + xs.length) ρ' h'
  | [], i, ρ, h, p, _ => ⟨ρ, h, rfl, p⟩
  | x :: xs, i, ρ, h, p, step => by
    obtain ⟨ρ1, h1, e1, ρ2, h2, e2, p2⟩ := step 0 x ρ h rfl p
    obtain ⟨ρ', h', e3, p3⟩ := forRun P xs (i + 1) ρ2 h2 p2 fun j y ρ h hy q => by
      have := step (j + 1) y ρ h (by simpa using hy) (by rw [show i + (j + 1) = i + 1 + j by omega]; exact q)
      rw [show i + (j + 1) + 1 = i + 1 + j + 1 by omega] at this
      exact this
    refine ⟨ρ', h', ?_, by rw [List.length_cons, show i + (xs.length + 1) = i + 1 + xs.length by omega]; exact p3⟩
    unfold iterF
    rw [e1]
    simp only
    rcases e2 with e2 | e2
    · rw [e2]; exact e3
    · rw [e2]; exact e3
/-- a while loop by an invariant and a measure -/
theorem whileRun {c : Ct} {b : Cs} (P : Nat → Env' → Hm → Prop) (R : Env' → Hm → Prop)
    (turn : ∀ m ρ h, P m ρ h → ∃ k h1, c ρ h = some (k, h1) ∧ ((k = false ∧ R ρ h1) ∨ (k = true ∧ ∃ ρ2 h2, (b ρ h1 = some (.nx ρ2, h2) ∨ b ρ h1 = some (.ct ρ2, h2)) ∧ ∃ m', m' < m ∧ P m' ρ2 h2))) :
    ∀ (n m : Nat) (ρ : Env') (h : Hm), m < n → P m ρ h → ∃ ρ' h', iterW c b n ρ h = some (.nx ρ', h') ∧ R ρ' h'
  | 0, m, _, _, hm, _ => by omega
  | n + 1, m, ρ, h, hm, p => by
    obtain ⟨k, h1, e1, q⟩ := turn m ρ h p
    rcases q with ⟨rfl, r⟩ | ⟨rfl, ρ2, h2, e2, m', hm', p'⟩
    · exact ⟨ρ, h1, by unfold iterW; rw [e1], r⟩
    · obtain ⟨ρ', h', e3, r⟩ := whileRun P R turn n m' ρ2 h2 (by omega) p'
      refine ⟨ρ', h', ?_, r⟩
      unfold iterW
      rw [e1]
      simp only
      rcases e2 with e2 | e2
      · rw [e2]; exact e3
      · rw [e2]; exact e3
theorem seqRun {a b : Cs} {ρ ρ1 : Env'} {h h1 : Hm} {q : Option (Fl × Hm)} (e1 : a ρ h = some (.nx ρ1, h1)) (e2 : b ρ1 h1 = q) : sCons a b ρ h = q := by
  unfold sCons
  rw [e1]
  exact e2
theorem okLen_of {n : Nat} (h : n ≤ 16777216) : okLen n = true := Nat.ble_eq_true_of_le h
theorem fnRun {P : List Fn} {k f : Nat} {fn : Fn} {ws : List Vl} {h h' : Hm} {w : Vl} (hf : P[f]? = some fn) (hl : ws.length = fn.np) (e : exs (callL P k) fn.body (ws.map some ++ List.replicate (fn.ns - fn.np) none) h = some (.rt w, h')) : callL P (k + 1) f ws h = some (w, h') := by
  show (match P[f]? with
    | some fn => runFn (callL P k) fn ws h
    | none => none) = _
  rw [hf]
  show runFn (callL P k) fn ws h = _
  unfold runFn
  rw [hl, beq_self_eq_true, if_pos rfl, e]
theorem compNone {g : Cg} {c : Ct} {e : Cm} {ρ : Env'} {h : Hm} : ∀ {xs : List Vl}, (∀ x ∈ xs, ∃ ρ1, g x ρ h = some (ρ1, h) ∧ c ρ1 h = some (false, h)) → compL g c e ρ xs h = some ([], h)
  | [], _ => rfl
  | x :: xs, k => by
    obtain ⟨ρ1, e1, e2⟩ := k x List.mem_cons_self
    unfold compL
    rw [e1]
    simp only
    rw [e2]
    exact compNone fun y hy => k y (List.mem_cons_of_mem _ hy)
theorem compMap {g : Cg} {e : Cm} {ρ : Env'} {h : Hm} (f : Vl → Vl) : ∀ {xs : List Vl}, (∀ x ∈ xs, ∃ ρ1, g x ρ h = some (ρ1, h) ∧ e ρ1 h = some (f x, h)) → compL g cYes e ρ xs h = some (xs.map f, h)
  | [], _ => rfl
  | x :: xs, k => by
    obtain ⟨ρ1, e1, e2⟩ := k x List.mem_cons_self
    unfold compL
    rw [e1]
    simp only [cYes]
    rw [e2]
    simp only
    rw [compMap f fun y hy => k y (List.mem_cons_of_mem _ hy)]
    rfl
theorem toDs_map : ∀ (ds : List PyData), toDs (ds.map .d) = some ds
  | [] => rfl
  | d :: ds => by
    show (toDs (ds.map .d)).map (d :: ·) = _
    rw [toDs_map ds]
    rfl
theorem intsD_map : ∀ (ns : List Int), intsD (ns.map .int) = some ns
  | [] => rfl
  | n :: ns => by
    show (intsD (ns.map .int)).map (n :: ·) = _
    rw [intsD_map ns]
    rfl
theorem mem_rng {lo : Int} {n : Nat} {x : Vl} (h : x ∈ rngL lo n) : ∃ i : Nat, i < n ∧ x = .d (.int (lo + i)) := by
  unfold rngL at h
  obtain ⟨d, h1, rfl⟩ := List.mem_map.mp h
  obtain ⟨i, hi⟩ := List.getElem?_of_mem h1
  obtain ⟨h2, rfl⟩ := upTo_get n lo i d hi
  exact ⟨i, h2, rfl⟩
theorem rng_get {lo : Int} {n j : Nat} {x : Vl} (h : (rngL lo n)[j]? = some x) : j < n ∧ x = .d (.int (lo + j)) := by
  obtain ⟨d, h1, rfl⟩ := map_get h
  obtain ⟨h2, rfl⟩ := upTo_get n lo j d h1
  exact ⟨h2, rfl⟩
theorem rng_len (lo : Int) (n : Nat) : (rngL lo n).length = n := by unfold rngL; rw [List.length_map, upTo_len]
theorem atI_nat {α : Type} {xs : List α} {i : Int} (h0 : 0 ≤ i) (h1 : i < xs.length) : atI xs i = xs[i.toNat]? := by
  unfold atI ixN
  rw [if_pos h0, if_pos h1]
  rfl
/-- operations, at ints -/
theorem b_add (i j : Int) : binD .add (.int i) (.int j) = some (.int (i + j)) := rfl
theorem b_sub (i j : Int) : binD .sub (.int i) (.int j) = some (.int (i - j)) := rfl
theorem b_addT (xs ys : List PyData) (h : xs.length + ys.length ≤ 16777216) : binD .add (.tuple xs) (.tuple ys) = some (.tuple (xs ++ ys)) := by
  show (if okLen (xs.length + ys.length) then _ else _) = _
  rw [if_pos (okLen_of h)]
theorem b_addL (xs ys : List PyData) (h : xs.length + ys.length ≤ 16777216) : binD .add (.list xs) (.list ys) = some (.list (xs ++ ys)) := by
  show (if okLen (xs.length + ys.length) then _ else _) = _
  rw [if_pos (okLen_of h)]
theorem b_mul (i j : Int) (h : i.natAbs < 18446744073709551616 ∨ j.natAbs < 18446744073709551616) : binD .mul (.int i) (.int j) = some (.int (i * j)) := by
  show (if mulOk i j then _ else _) = _
  rw [if_pos]
  unfold mulOk
  rw [Bool.or_eq_true, Bool.or_eq_true]
  rcases h with h | h
  · exact .inl (Nat.ble_eq_true_of_le h)
  · exact .inr (.inl (Nat.ble_eq_true_of_le h))
theorem b_mod (i j : Int) (h : 0 < j) : binD .mod (.int i) (.int j) = some (.int (i % j)) := by
  show (if decide (0 < j) then _ else _) = _
  rw [if_pos (by simpa using h)]
theorem b_div (i j : Int) (h : 0 < j) (h2 : j < 2 ^ 8999) : binD .fdiv (.int i) (.int j) = some (.int (i / j)) := by
  show (if decide (0 < j) then _ else _) = _
  rw [if_pos (by simpa using h), if_pos]
  refine Nat.ble_eq_true_of_le ?_
  have : j.natAbs < 2 ^ 8999 := by omega
  have h3 := (Nat.log2_lt (by omega)).mpr this
  omega
theorem b_divN (i j : Int) (h : j < 0) (h2 : -1073741824 < j) : binD .fdiv (.int i) (.int j) = some (.int (i.fdiv j)) := by
  show (if decide (0 < j) then _ else if (decide (j < 0) && Nat.blt j.natAbs 1073741824) = true then _ else _) = _
  rw [if_neg (by simp; omega), if_pos]
  rw [Bool.and_eq_true]
  exact ⟨by simpa using h, Nat.ble_eq_true_of_le (by omega)⟩
theorem okLen0 : okLen 0 = true := rfl
theorem okLen1 : okLen 1 = true := rfl
theorem okLen2 : okLen 2 = true := rfl
theorem okLen3 : okLen 3 = true := rfl
theorem okLen4 : okLen 4 = true := rfl
theorem okLen5 : okLen 5 = true := rfl
theorem stSeq {C : Orc} {s : S} {ss : Ss} {ρ ρ1 : Env'} {h h1 : Hm} {q : Option (Fl × Hm)} (e1 : ex C s ρ h = some (.nx ρ1, h1)) (e2 : exs C ss ρ1 h1 = q) : exs C (.cons s ss) ρ h = q := seqRun e1 e2
theorem forSeq {C : Orc} {t : T} {i : I} {b ss : Ss} {ρ ρ2 : Env'} {h h1 h2 : Hm} {xs : List Vl} {q : Option (Fl × Hm)} (ei : evI C i ρ h = some (xs, h1)) (e : iterF (evT C t) (exs C b) xs ρ h1 = some (.nx ρ2, h2)) (e2 : exs C ss ρ2 h2 = q) :
    exs C (.cons (.for_ t i b) ss) ρ h = q := by
  refine seqRun (ρ1 := ρ2) (h1 := h2) ?_ e2
  show sFor (evT C t) (evI C i) (exs C b) ρ h = _
  unfold sFor
  rw [ei]
  exact e
theorem whlSeq {C : Orc} {c : E} {b ss : Ss} {ρ ρ2 : Env'} {h h2 : Hm} {q : Option (Fl × Hm)} (e : iterW (toB (ev C c)) (exs C b) lots ρ h = some (.nx ρ2, h2)) (e2 : exs C ss ρ2 h2 = q) :
    exs C (.cons (.whl c b) ss) ρ h = q := seqRun (ρ1 := ρ2) (h1 := h2) e e2
section
variable {C : Orc} {a b d e t : E} {ρ : Env'} {h h1 h2 h3 h4 : Hm} {x y z : Vl} {r : Bool}
theorem or2 (e1 : toB (ev C a) ρ h = some (false, h1)) (e2 : toB (ev C b) ρ h1 = some (r, h2)) : toB (ev C (.or_ a (.cons b .nil))) ρ h = some (r, h2) := by
  show toB (ofB (cOr (toB (ev C a)) (toB (ev C b)))) ρ h = _
  rw [toB_ofB]
  unfold cOr
  rw [e1]
  exact e2
theorem or3 (e1 : toB (ev C a) ρ h = some (false, h1)) (e2 : toB (ev C b) ρ h1 = some (false, h2)) (e3 : toB (ev C d) ρ h2 = some (r, h3)) : toB (ev C (.or_ a (.cons b (.cons d .nil)))) ρ h = some (r, h3) := by
  show toB (ofB (cOr (toB (ev C a)) (cOr (toB (ev C b)) (toB (ev C d))))) ρ h = _
  rw [toB_ofB]
  unfold cOr
  rw [e1]
  simp only
  rw [e2]
  exact e3
theorem or4 (e1 : toB (ev C a) ρ h = some (false, h1)) (e2 : toB (ev C b) ρ h1 = some (false, h2)) (e3 : toB (ev C d) ρ h2 = some (false, h3)) (e4 : toB (ev C e) ρ h3 = some (r, h4)) : toB (ev C (.or_ a (.cons b (.cons d (.cons e .nil))))) ρ h = some (r, h4) := by
  show toB (ofB (cOr (toB (ev C a)) (cOr (toB (ev C b)) (cOr (toB (ev C d)) (toB (ev C e)))))) ρ h = _
  rw [toB_ofB]
  unfold cOr
  rw [e1]
  simp only
  rw [e2]
  simp only
  rw [e3]
  exact e4
theorem and2 (e1 : toB (ev C a) ρ h = some (true, h1)) (e2 : toB (ev C b) ρ h1 = some (r, h2)) : toB (ev C (.and_ a (.cons b .nil))) ρ h = some (r, h2) := by
  show toB (ofB (cAnd (toB (ev C a)) (toB (ev C b)))) ρ h = _
  rw [toB_ofB]
  unfold cAnd
  rw [e1]
  exact e2
theorem and3 (e1 : toB (ev C a) ρ h = some (true, h1)) (e2 : toB (ev C b) ρ h1 = some (true, h2)) (e3 : toB (ev C d) ρ h2 = some (r, h3)) : toB (ev C (.and_ a (.cons b (.cons d .nil)))) ρ h = some (r, h3) := by
  show toB (ofB (cAnd (toB (ev C a)) (cAnd (toB (ev C b)) (toB (ev C d))))) ρ h = _
  rw [toB_ofB]
  unfold cAnd
  rw [e1]
  simp only
  rw [e2]
  exact e3
theorem notR (e1 : toB (ev C a) ρ h = some (r, h1)) : toB (ev C (.not_ a)) ρ h = some (!r, h1) := by
  show toB (ofB (cNot (toB (ev C a)))) ρ h = _
  rw [toB_ofB]
  unfold cNot
  rw [e1]
theorem toBR (e1 : ev C a ρ h = some (.d (.bool r), h1)) : toB (ev C a) ρ h = some (r, h1) := by
  unfold toB
  rw [e1]
theorem ofTB (e1 : toB (ev C a) ρ h = some (r, h1)) : ev C a ρ h = some (.d (.bool r), h1) := toB_of e1
theorem cmpR {o : CO} (e1 : ev C a ρ h = some (x, h1)) (e2 : ev C b ρ h1 = some (y, h2)) (e3 : cmpV o h2 x y = some r) : toB (ev C (.cmp o a b)) ρ h = some (r, h2) := by
  show toB (ofB (cCmpB o (ev C a) (ev C b))) ρ h = _
  rw [toB_ofB]
  unfold cCmpB
  rw [e1]
  simp only
  rw [e2]
  simp only
  rw [e3]
theorem ifNo {p ss : Ss} {q : Option (Fl × Hm)} (e1 : toB (ev C t) ρ h = some (false, h1)) (e2 : exs C ss ρ h1 = q) : exs C (.cons (.ife t p .nil) ss) ρ h = q := by
  refine seqRun (ρ1 := ρ) (h1 := h1) ?_ e2
  show sIf (toB (ev C t)) (exs C p) (exs C .nil) ρ h = _
  unfold sIf
  rw [e1]
  rfl
theorem ifYes {p p2 ss : Ss} {ρ1 : Env'} {q : Option (Fl × Hm)} (e1 : toB (ev C t) ρ h = some (true, h1)) (e3 : exs C p ρ h1 = some (.nx ρ1, h2)) (e2 : exs C ss ρ1 h2 = q) : exs C (.cons (.ife t p p2) ss) ρ h = q := by
  refine seqRun (ρ1 := ρ1) (h1 := h2) ?_ e2
  show sIf (toB (ev C t)) (exs C p) (exs C p2) ρ h = _
  unfold sIf
  rw [e1]
  exact e3
theorem ifRet {p p2 ss : Ss} {w : Vl} (e1 : toB (ev C t) ρ h = some (true, h1)) (e3 : exs C p ρ h1 = some (.rt w, h2)) : exs C (.cons (.ife t p p2) ss) ρ h = some (.rt w, h2) := by
  show sCons (ex C (.ife t p p2)) (exs C ss) ρ h = _
  unfold sCons
  have : ex C (.ife t p p2) ρ h = some (.rt w, h2) := by
    show sIf (toB (ev C t)) (exs C p) (exs C p2) ρ h = _
    unfold sIf
    rw [e1]
    exact e3
  rw [this]
theorem retR {ss : Ss} (e1 : ev C a ρ h = some (x, h1)) : exs C (.cons (.ret a) ss) ρ h = some (.rt x, h1) := by
  show sCons (sRet (ev C a)) (exs C ss) ρ h = _
  unfold sCons sRet
  rw [e1]
theorem setR {i : Nat} {ss : Ss} {q : Option (Fl × Hm)} (e1 : ev C a ρ h = some (x, h1)) (e2 : exs C ss (ρ.set i (some x)) h1 = q) : exs C (.cons (.asg (.nm i) a) ss) ρ h = q := by
  refine seqRun (ρ1 := ρ.set i (some x)) (h1 := h1) ?_ e2
  show sAsg (gNm i) (ev C a) ρ h = _
  unfold sAsg
  rw [e1]
  rfl
theorem callPR {f : Nat} {as : Es} {ws : List Vl} {dd : PyData} {h' : Hm} (e1 : evs C as ρ h = some (ws, h1)) (hp : pureV ws = true) (e2 : C f ws [] = some (.d dd, h')) : ev C (.callP f as) ρ h = some (.d dd, h1) := by
  show cCallP C f (evs C as) ρ h = _
  unfold cCallP
  rw [e1]
  simp only
  rw [if_pos hp, e2]
theorem evs1' (e1 : ev C a ρ h = some (x, h1)) : evs C (.cons a .nil) ρ h = some ([x], h1) := asg1 e1
theorem evs2' (e1 : ev C a ρ h = some (x, h1)) (e2 : ev C b ρ h1 = some (y, h2)) : evs C (.cons a (.cons b .nil)) ρ h = some ([x, y], h2) := asg2 e1 e2
theorem ixR {dy : PyData} (e1 : ev C a ρ h = some (x, h1)) (e2 : ev C b ρ h1 = some (.d dy, h2)) (e3 : ixV h2 x dy = some z) : ev C (.ix a b) ρ h = some (z, h2) := by
  show cIx (ev C a) (ev C b) ρ h = _
  unfold cIx
  rw [e1]
  simp only
  rw [e2]
  simp only
  rw [e3]
theorem atT (h : Hm) (xs : List Int) {i : Int} {d : Int} (h0 : 0 ≤ i) (h1 : xs[i.toNat]? = some d) : ixV h (.d (.tuple (xs.map .int))) (.int i) = some (.d (.int d)) := by
  have hl := (List.getElem?_eq_some_iff.mp h1).1
  show (atI (xs.map PyData.int) i).map Vl.d = _
  rw [atI_nat h0 (by rw [List.length_map]; omega), List.getElem?_map, h1]
  rfl
theorem binR {o : BO} {dx dy dz : PyData} (e1 : ev C a ρ h = some (x, h1)) (e2 : ev C b ρ h1 = some (y, h2)) (c1 : cur h2 x = some dx) (c2 : cur h2 y = some dy) (e3 : binD o dx dy = some dz) : ev C (.bin o a b) ρ h = some (.d dz, h2) := by
  show cBin o (ev C a) (ev C b) ρ h = _
  unfold cBin
  rw [e1]
  simp only
  rw [e2]
  simp only
  rw [c1, c2]
  simp only
  rw [e3]
theorem addR {i j : Int} (e1 : ev C a ρ h = some (.d (.int i), h1)) (e2 : ev C b ρ h1 = some (.d (.int j), h2)) : ev C (.bin .add a b) ρ h = some (.d (.int (i + j)), h2) := binR e1 e2 rfl rfl rfl
theorem subR {i j : Int} (e1 : ev C a ρ h = some (.d (.int i), h1)) (e2 : ev C b ρ h1 = some (.d (.int j), h2)) : ev C (.bin .sub a b) ρ h = some (.d (.int (i - j)), h2) := binR e1 e2 rfl rfl rfl
theorem mulR {i j : Int} (e1 : ev C a ρ h = some (.d (.int i), h1)) (e2 : ev C b ρ h1 = some (.d (.int j), h2)) (k : i.natAbs < 18446744073709551616 ∨ j.natAbs < 18446744073709551616) : ev C (.bin .mul a b) ρ h = some (.d (.int (i * j)), h2) := binR e1 e2 rfl rfl (b_mul i j k)
theorem negR {i : Int} (e1 : ev C a ρ h = some (.d (.int i), h1)) : ev C (.neg a) ρ h = some (.d (.int (-i)), h1) := by
  show cNeg (ev C a) ρ h = _
  unfold cNeg
  rw [e1]
theorem prim1 {p : PR} {dx dz : PyData} (e1 : ev C a ρ h = some (x, h1)) (c1 : curS h1 x = some dx) (e3 : primD p [dx] = some dz) : ev C (.prim p (.cons a .nil)) ρ h = some (.d dz, h1) := by
  show cPrim p (evs C (.cons a .nil)) ρ h = _
  unfold cPrim
  rw [evs1' e1]
  simp only [curs, c1, e3]
theorem prim2 {p : PR} {dx dy dz : PyData} (e1 : ev C a ρ h = some (x, h1)) (e2 : ev C b ρ h1 = some (y, h2)) (c1 : curS h2 x = some dx) (c2 : curS h2 y = some dy) (e3 : primD p [dx, dy] = some dz) : ev C (.prim p (.cons a (.cons b .nil))) ρ h = some (.d dz, h2) := by
  show cPrim p (evs C (.cons a (.cons b .nil))) ρ h = _
  unfold cPrim
  rw [evs2' e1 e2]
  simp only [curs, c1, c2, e3]
theorem iteR (e1 : toB (ev C t) ρ h = some (r, h1)) (e2 : (if r = true then ev C a ρ h1 else ev C b ρ h1) = some (x, h2)) : ev C (.ife t a b) ρ h = some (x, h2) := by
  show cIf (toB (ev C t)) (ev C a) (ev C b) ρ h = _
  unfold cIf
  rw [e1]
  cases r <;> exact e2
theorem callR {f : Nat} {as : Es} {ws : List Vl} (e1 : evs C as ρ h = some (ws, h1)) (e2 : C f ws h1 = some (x, h2)) : ev C (.call f as) ρ h = some (x, h2) := by
  show cCall C f (evs C as) ρ h = _
  unfold cCall
  rw [e1]
  exact e2
theorem augSR {dy : PyData} {u j : Int} (e1 : ev C a ρ h = some (x, h1)) (e2 : ev C b ρ h1 = some (.d dy, h2)) (e3 : ixV h2 x dy = some (.d (.int u))) (e4 : ev C d ρ h2 = some (.d (.int j), h3)) (e5 : MP.putAt h3 x dy (.d (.int (u + j))) = some h4) : ex C (.augS a b .add d) ρ h = some (.nx ρ, h4) := by
  have q : ex C (.augS a b .add d) = sAugS (ev C a) (ev C b) .add (ev C d) := rfl
  rw [q]
  unfold sAugS
  rw [e1]
  simp only
  rw [e2]
  simp only
  rw [e3]
  simp only
  rw [e4]
  simp only [augD]
  rw [e5]
theorem augR {i : Nat} {u j : Int} (e0 : ρ[i]? = some (some (.d (.int u)))) (e1 : ev C a ρ h = some (.d (.int j), h1)) : ex C (.aug i .add a) ρ h = some (.nx (ρ.set i (some (.d (.int (u + j))))), h1) := by
  show sAug i .add (ev C a) ρ h = _
  unfold sAug
  rw [e0]
  simp only
  rw [e1]
  rfl
theorem augSubR {i : Nat} {u j : Int} (e0 : ρ[i]? = some (some (.d (.int u)))) (e1 : ev C a ρ h = some (.d (.int j), h1)) : ex C (.aug i .sub a) ρ h = some (.nx (ρ.set i (some (.d (.int (u - j))))), h1) := by
  show sAug i .sub (ev C a) ρ h = _
  unfold sAug
  rw [e0]
  simp only
  rw [e1]
  rfl
theorem evs1 (e1 : ev C a ρ h = some (x, h1)) : evs C (.cons a .nil) ρ h = some ([x], h1) := asg1 e1
theorem evs2 (e1 : ev C a ρ h = some (x, h1)) (e2 : ev C b ρ h1 = some (y, h2)) : evs C (.cons a (.cons b .nil)) ρ h = some ([x, y], h2) := asg2 e1 e2
theorem evs3 (e1 : ev C a ρ h = some (x, h1)) (e2 : ev C b ρ h1 = some (y, h2)) (e3 : ev C d ρ h2 = some (z, h3)) : evs C (.cons a (.cons b (.cons d .nil))) ρ h = some ([x, y, z], h3) := asg3 e1 e2 e3
end
theorem condOf_or {a : E} {as : Es} {c : Cm} : condOf (.or_ a as) c = toB c := rfl
theorem condOf_and {a : E} {as : Es} {c : Cm} : condOf (.and_ a as) c = toB c := rfl
theorem condOf_not {a : E} {c : Cm} : condOf (.not_ a) c = toB c := rfl
theorem condOf_cmp {o : CO} {a b : E} {c : Cm} : condOf (.cmp o a b) c = toB c := rfl
end MP

namespace Law
open PySem PySem.Spec L2 MP
abbrev prg : Program := PySem.Challenge.pw_numberstead_k73_digits_of_numbers
abbrev lawO : PySem.W.OpenLaw := PySem.Challenge.rw_numberstead_k73_digits_of_numbers
def top (i : Nat) : Stmt := prg.main.body.getD i (.Pass ⟨0, 0, 0, 0⟩)
def f_digits_of : Fn := ⟨2, 3, (.cons (.asg (.nm 2) (.tup .nil)) (.cons (.whl (.cmp .ne (.v 0) (.c (.int 0))) (.cons (.asg (.nm 2) (.bin .add (.tup (.cons (.bin .mod (.v 0) (.prim .abs (.cons (.v 1) .nil))) .nil)) (.v 2))) (.cons (.asg (.nm 0) (.bin .fdiv (.bin .sub (.v 0) (.bin .mod (.v 0) (.prim .abs (.cons (.v 1) .nil)))) (.v 1))) .nil))) (.cons (.ret (.v 2)) .nil)))⟩
def f_below_zero : Fn := ⟨2, 2, (.cons (.ret (.callP 0 (.cons (.v 0) (.cons (.v 1) .nil)))) .nil)⟩
def f_balanced : Fn := ⟨1, 3, (.cons (.asg (.nm 1) (.tup .nil)) (.cons (.whl (.cmp .ne (.v 0) (.c (.int 0))) (.cons (.asg (.nm 2) (.bin .sub (.bin .mod (.bin .add (.v 0) (.c (.int 1))) (.c (.int 3))) (.c (.int 1)))) (.cons (.asg (.nm 1) (.bin .add (.tup (.cons (.v 2) .nil)) (.v 1))) (.cons (.asg (.nm 0) (.bin .fdiv (.bin .sub (.v 0) (.v 2)) (.c (.int 3)))) .nil)))) (.cons (.ret (.v 1)) .nil)))⟩
def f_mixed_digits : Fn := ⟨2, 4, (.cons (.asg (.nm 2) (.tup .nil)) (.cons (.for_ (.nm 3) (.sq (.rev (.v 1))) (.cons (.asg (.nm 2) (.bin .add (.tup (.cons (.bin .mod (.v 0) (.v 3)) .nil)) (.v 2))) (.cons (.asg (.nm 0) (.bin .fdiv (.v 0) (.v 3))) .nil))) (.cons (.ret (.bin .add (.tup (.cons (.v 0) .nil)) (.v 2))) .nil)))⟩
def f_by_factorials : Fn := ⟨1, 3, (.cons (.asg (.nm 1) (.tup .nil)) (.cons (.asg (.nm 2) (.c (.int 2))) (.cons (.whl (.cmp .gt (.v 0) (.c (.int 0))) (.cons (.asg (.nm 1) (.bin .add (.tup (.cons (.bin .mod (.v 0) (.v 2)) .nil)) (.v 1))) (.cons (.asg (.nm 0) (.bin .fdiv (.v 0) (.v 2))) (.cons (.aug 2 .add (.c (.int 1))) .nil)))) (.cons (.ret (.v 1)) .nil))))⟩
def f_two_ahead : Fn := ⟨1, 2, (.cons (.asg (.nm 1) (.fm (.disp (.cons (.c (.int 1)) (.cons (.c (.int 2)) .nil))))) (.cons (.whl (.cmp .le (.ix (.v 1) (.neg (.c (.int 1)))) (.v 0)) (.cons (.app (.v 1) (.bin .add (.ix (.v 1) (.neg (.c (.int 1)))) (.ix (.v 1) (.neg (.c (.int 2)))))) .nil)) (.cons (.ret (.v 1)) .nil)))⟩
def f_by_two_ahead : Fn := ⟨1, 4, (.cons (.asg (.nm 1) (.call 5 (.cons (.v 0) .nil))) (.cons (.asg (.nm 2) (.fm (.disp .nil))) (.cons (.for_ (.nm 3) (.r3 (.bin .sub (.prim .len (.cons (.v 1) .nil)) (.c (.int 1))) (.neg (.c (.int 1))) (.neg (.c (.int 1)))) (.cons (.ife (.cmp .le (.ix (.v 1) (.v 3)) (.v 0)) (.cons (.app (.v 2) (.bin .add (.v 3) (.c (.int 2)))) (.cons (.aug 0 .sub (.ix (.v 1) (.v 3))) .nil)) .nil) .nil)) (.cons (.ret (.prim .tuple (.cons (.rev (.v 2)) .nil))) .nil))))⟩
def f_number_by : Fn := ⟨3, 9, (.cons (.ife (.cmp .eq (.v 0) (.c (.str "two"))) (.cons (.asg (.nm 6) (.call 5 (.cons (.c (.int 1)) .nil))) (.cons (.whl (.cmp .lt (.prim .len (.cons (.v 6) .nil)) (.prim .max1 (.cons (.bin .add (.tup (.cons (.c (.int 0)) .nil)) (.v 1)) .nil))) (.cons (.app (.v 6) (.bin .add (.ix (.v 6) (.neg (.c (.int 1)))) (.ix (.v 6) (.neg (.c (.int 2)))))) .nil)) (.cons (.ret (.prim .sum (.cons (.fl (.comp [8] (.ix (.v 6) (.bin .sub (.v 8) (.c (.int 2)))) (.nm 8) (.sq (.v 1)) .nop)) .nil))) .nil))) .nil) (.cons (.asg (.nm 3) (.c (.int 0))) (.cons (.asg (.nm 4) (.prim .len (.cons (.v 1) .nil))) (.cons (.for_ (.nm 5) (.r1 (.v 4)) (.cons (.asg (.nm 7) (.ix (.dic [.inr "plain", .inr "balanced", .inr "factorials"] (.cons (.v 2) (.cons (.c (.int 3)) (.cons (.bin .add (.bin .sub (.v 4) (.v 5)) (.c (.int 1))) .nil)))) (.v 0))) (.cons (.asg (.nm 3) (.bin .add (.bin .mul (.v 3) (.v 7)) (.ix (.v 1) (.v 5)))) .nil))) (.cons (.ret (.v 3)) .nil)))))⟩
def f__law_draws : Fn := ⟨2, 8, (.cons (.asg (.nm 2) (.fm (.disp .nil))) (.cons (.asg (.nm 3) (.c (.int 7))) (.cons (.for_ (.nm 4) (.r1 (.prim .len (.cons (.v 0) .nil))) (.cons (.asg (.nm 5) (.prim .abs (.cons (.prim .int (.cons (.ix (.v 0) (.v 4)) .nil)) .nil))) (.cons (.asg (.nm 3) (.bin .mod (.prim .int (.cons (.bin .add (.bin .add (.bin .mul (.v 3) (.c (.int 48271))) (.bin .mod (.v 5) (.c (.int 1000003)))) (.v 4)) .nil)) (.c (.int 65537)))) (.cons (.asg (.nm 6) (.c (.int 0))) (.cons (.ife (.cmp .ge (.v 5) (.bin .pow (.c (.int 10)) (.c (.int 18)))) (.cons (.asg (.nm 6) (.v 5)) .nil) (.cons (.app (.v 2) (.bin .mod (.prim .int (.cons (.v 5) .nil)) (.c (.int 997)))) (.cons (.app (.v 2) (.bin .mod (.bin .mod (.prim .int (.cons (.bin .add (.bin .mul (.v 3) (.c (.int 69621))) (.c (.int 5))) .nil)) (.c (.int 65521))) (.c (.int 997)))) .nil))) (.cons (.for_ (.nm 7) (.r1 (.c (.int 60))) (.cons (.ife (.cmp .gt (.v 6) (.c (.int 0))) (.cons (.app (.v 2) (.bin .mod (.prim .int (.cons (.v 6) .nil)) (.c (.int 997)))) (.cons (.asg (.nm 6) (.bin .fdiv (.v 6) (.c (.int 997)))) .nil)) .nil) .nil)) .nil)))))) (.cons (.for_ (.nm 4) (.r1 (.v 1)) (.cons (.asg (.nm 3) (.bin .mod (.prim .int (.cons (.bin .add (.bin .add (.bin .mul (.v 3) (.c (.int 16807))) (.v 4)) (.c (.int 1))) .nil)) (.c (.int 65537)))) (.cons (.app (.v 2) (.bin .mod (.prim .int (.cons (.v 3) .nil)) (.c (.int 997)))) .nil))) (.cons (.ret (.sl (.v 2) .nop (.v 1))) .nil)))))⟩
def f__law_next : Fn := ⟨2, 2, (.cons (.augS (.v 0) (.c (.str "at")) .add (.c (.int 1))) (.cons (.ife (.cmp .gt (.ix (.v 0) (.c (.str "at"))) (.prim .len (.cons (.ix (.v 0) (.c (.str "draws"))) .nil))) (.cons (.ret (.c (.int 0))) .nil) .nil) (.cons (.ret (.bin .mod (.prim .int (.cons (.ix (.ix (.v 0) (.c (.str "draws"))) (.bin .sub (.ix (.v 0) (.c (.str "at"))) (.c (.int 1)))) .nil)) (.v 1))) .nil)))⟩
def f__law_pick : Fn := ⟨2, 2, (.cons (.ret (.ix (.v 1) (.call 9 (.cons (.v 0) (.cons (.prim .len (.cons (.v 1) .nil)) .nil))))) .nil)⟩
def f__law_alike : Fn := ⟨2, 3, (.cons (.ife (.prim .isTup (.cons (.v 1) .nil)) (.cons (.ife (.or_ (.not_ (.prim .isTup (.cons (.v 0) .nil))) (.cons (.cmp .ne (.prim .len (.cons (.v 0) .nil)) (.prim .len (.cons (.v 1) .nil))) .nil)) (.cons (.ret (.c (.bool false))) .nil) .nil) (.cons (.ret (.cmp .eq (.fl (.comp [2] (.v 2) (.nm 2) (.r1 (.prim .len (.cons (.v 1) .nil))) (.not_ (.callP 11 (.cons (.ix (.v 0) (.v 2)) (.cons (.ix (.v 1) (.v 2)) .nil)))))) (.fl (.disp .nil)))) .nil)) .nil) (.cons (.ife (.cmp .is_ (.v 1) (.c .none)) (.cons (.ret (.cmp .is_ (.v 0) (.c .none))) .nil) .nil) (.cons (.ife (.prim .isBool (.cons (.v 1) .nil)) (.cons (.ret (.and_ (.prim .isBool (.cons (.v 0) .nil)) (.cons (.cmp .eq (.v 0) (.v 1)) .nil))) .nil) .nil) (.cons (.ife (.prim .isInt (.cons (.v 1) .nil)) (.cons (.ret (.and_ (.prim .isInt (.cons (.v 0) .nil)) (.cons (.not_ (.prim .isBool (.cons (.v 0) .nil))) (.cons (.cmp .eq (.v 0) (.v 1)) .nil)))) .nil) .nil) (.cons (.ret (.and_ (.prim .isStr (.cons (.v 0) .nil)) (.cons (.cmp .eq (.v 0) (.v 1)) .nil))) .nil)))))⟩
def f__law_are_digits : Fn := ⟨3, 4, (.cons (.ife (.or_ (.not_ (.prim .isTup (.cons (.v 0) .nil))) (.cons (.cmp .ne (.fl (.comp [3] (.v 3) (.nm 3) (.sq (.v 0)) (.or_ (.not_ (.prim .isInt (.cons (.v 3) .nil))) (.cons (.prim .isBool (.cons (.v 3) .nil)) (.cons (.not_ (.ch2 .le .lt (.v 1) (.v 3) (.v 2))) .nil))))) (.fl (.disp .nil))) .nil)) (.cons (.ret (.c (.bool false))) .nil) .nil) (.cons (.ret (.or_ (.cmp .eq (.v 0) (.tup .nil)) (.cons (.cmp .ne (.ix (.v 0) (.c (.int 0))) (.c (.int 0))) .nil))) .nil))⟩
def f__law_value : Fn := ⟨2, 4, (.cons (.asg (.nm 2) (.c (.int 0))) (.cons (.for_ (.nm 3) (.sq (.v 0)) (.cons (.asg (.nm 2) (.bin .add (.bin .mul (.v 2) (.v 1)) (.v 3))) .nil)) (.cons (.ret (.v 2)) .nil)))⟩
def f__law_product : Fn := ⟨1, 3, (.cons (.asg (.nm 1) (.c (.int 1))) (.cons (.for_ (.nm 2) (.sq (.v 0)) (.cons (.asg (.nm 1) (.bin .mul (.v 1) (.v 2))) .nil)) (.cons (.ret (.v 1)) .nil)))⟩
def f__law_is_mixed : Fn := ⟨3, 5, (.cons (.ife (.or_ (.not_ (.prim .isTup (.cons (.v 0) .nil))) (.cons (.cmp .ne (.prim .len (.cons (.v 0) .nil)) (.bin .add (.prim .len (.cons (.v 2) .nil)) (.c (.int 1)))) (.cons (.cmp .ne (.fl (.comp [4] (.v 4) (.nm 4) (.sq (.v 0)) (.or_ (.not_ (.prim .isInt (.cons (.v 4) .nil))) (.cons (.prim .isBool (.cons (.v 4) .nil)) (.cons (.cmp .lt (.v 4) (.c (.int 0))) .nil))))) (.fl (.disp .nil))) .nil))) (.cons (.ret (.c (.bool false))) .nil) .nil) (.cons (.ife (.cmp .ne (.fl (.comp [3] (.v 3) (.nm 3) (.r1 (.prim .len (.cons (.v 2) .nil))) (.cmp .ge (.ix (.v 0) (.bin .add (.v 3) (.c (.int 1)))) (.ix (.v 2) (.v 3))))) (.fl (.disp .nil))) (.cons (.ret (.c (.bool false))) .nil) .nil) (.cons (.ret (.cmp .eq (.prim .sum (.cons (.fl (.comp [3] (.bin .mul (.ix (.v 0) (.v 3)) (.callP 14 (.cons (.sl (.v 2) (.v 3) .nop) .nil))) (.nm 3) (.r1 (.prim .len (.cons (.v 0) .nil))) .nop)) .nil)) (.v 1))) .nil)))⟩
def f__law_is_factorial : Fn := ⟨2, 5, (.cons (.ife (.not_ (.callP 12 (.cons (.v 0) (.cons (.c (.int 0)) (.cons (.bin .add (.prim .len (.cons (.v 0) .nil)) (.c (.int 1))) .nil))))) (.cons (.ret (.c (.bool false))) .nil) .nil) (.cons (.asg (.nm 2) (.c (.int 0))) (.cons (.for_ (.nm 3) (.r1 (.prim .len (.cons (.v 0) .nil))) (.cons (.asg (.nm 4) (.bin .sub (.prim .len (.cons (.v 0) .nil)) (.v 3))) (.cons (.ife (.cmp .gt (.ix (.v 0) (.v 3)) (.v 4)) (.cons (.ret (.c (.bool false))) .nil) .nil) (.cons (.aug 2 .add (.bin .mul (.ix (.v 0) (.v 3)) (.callP 14 (.cons (.prim .lrange2 (.cons (.c (.int 1)) (.cons (.bin .add (.v 4) (.c (.int 1))) .nil))) .nil)))) .nil)))) (.cons (.ret (.cmp .eq (.v 2) (.v 1))) .nil))))⟩
def f__law_two : Fn := ⟨1, 2, (.cons (.asg (.nm 1) (.fm (.disp (.cons (.c (.int 0)) (.cons (.c (.int 1)) (.cons (.c (.int 1)) .nil)))))) (.cons (.whl (.cmp .le (.prim .len (.cons (.v 1) .nil)) (.v 0)) (.cons (.app (.v 1) (.bin .add (.ix (.v 1) (.bin .sub (.prim .len (.cons (.v 1) .nil)) (.c (.int 1)))) (.ix (.v 1) (.bin .sub (.prim .len (.cons (.v 1) .nil)) (.c (.int 2)))))) .nil)) (.cons (.ret (.frz (.v 1))) .nil)))⟩
def f__law_is_two : Fn := ⟨2, 4, (.cons (.ife (.or_ (.not_ (.prim .isTup (.cons (.v 0) .nil))) (.cons (.cmp .ne (.fl (.comp [3] (.v 3) (.nm 3) (.sq (.v 0)) (.or_ (.not_ (.prim .isInt (.cons (.v 3) .nil))) (.cons (.prim .isBool (.cons (.v 3) .nil)) (.cons (.not_ (.ch2 .le .lt (.c (.int 2)) (.v 3) (.c (.int 40)))) .nil))))) (.fl (.disp .nil))) .nil)) (.cons (.ret (.c (.bool false))) .nil) .nil) (.cons (.ife (.cmp .ne (.fl (.comp [2] (.v 2) (.nm 2) (.r2 (.c (.int 1)) (.prim .len (.cons (.v 0) .nil))) (.cmp .lt (.ix (.v 0) (.v 2)) (.bin .add (.ix (.v 0) (.bin .sub (.v 2) (.c (.int 1)))) (.c (.int 2)))))) (.fl (.disp .nil))) (.cons (.ret (.c (.bool false))) .nil) .nil) (.cons (.ret (.cmp .eq (.prim .sum (.cons (.fl (.comp [3] (.ix (.callP 17 (.cons (.c (.int 40)) .nil)) (.v 3)) (.nm 3) (.sq (.v 0)) .nop)) .nil)) (.v 1))) .nil)))⟩
def f_law : Fn := ⟨1, 13, (.cons (.asg (.nm 1) (.dic [.inr "draws", .inr "at"] (.cons (.callP 8 (.cons (.v 0) (.cons (.c (.int 200)) .nil))) (.cons (.c (.int 0)) .nil)))) (.cons (.for_ (.nm 2) (.r1 (.c (.int 7))) (.cons (.asg (.nm 3) (.ife (.cmp .gt (.call 9 (.cons (.v 1) (.cons (.c (.int 6)) .nil))) (.c (.int 0))) (.bin .mul (.call 9 (.cons (.v 1) (.cons (.c (.int 1000)) .nil))) (.call 10 (.cons (.v 1) (.cons (.fl (.disp (.cons (.c (.int 1)) (.cons (.c (.int 1)) (.cons (.c (.int 7)) (.cons (.c (.int 40)) .nil)))))) .nil)))) (.call 9 (.cons (.v 1) (.cons (.c (.int 4)) .nil))))) (.cons (.asg (.nm 4) (.call 10 (.cons (.v 1) (.cons (.fl (.disp (.cons (.c (.int 1)) (.cons (.neg (.c (.int 1))) .nil)))) .nil)))) (.cons (.asg (.nm 5) (.bin .add (.c (.int 2)) (.call 9 (.cons (.v 1) (.cons (.c (.int 14)) .nil))))) (.cons (.par (.cons (.nm 6) (.cons (.nm 7) (.cons (.nm 8) .nil))) (.cons (.callP 0 (.cons (.v 3) (.cons (.v 5) .nil))) (.cons (.callP 1 (.cons (.bin .mul (.v 3) (.v 4)) (.cons (.neg (.v 5)) .nil))) (.cons (.callP 2 (.cons (.bin .mul (.v 3) (.v 4)) .nil)) .nil)))) (.cons (.ife (.or_ (.not_ (.callP 12 (.cons (.v 6) (.cons (.c (.int 0)) (.cons (.v 5) .nil))))) (.cons (.cmp .ne (.callP 13 (.cons (.v 6) (.cons (.v 5) .nil))) (.v 3)) (.cons (.not_ (.callP 12 (.cons (.v 7) (.cons (.c (.int 0)) (.cons (.v 5) .nil))))) (.cons (.cmp .ne (.callP 13 (.cons (.v 7) (.cons (.neg (.v 5)) .nil))) (.bin .mul (.v 3) (.v 4))) .nil)))) (.cons (.ret (.c (.bool false))) .nil) .nil) (.cons (.ife (.or_ (.not_ (.callP 12 (.cons (.v 8) (.cons (.neg (.c (.int 1))) (.cons (.c (.int 2)) .nil))))) (.cons (.cmp .ne (.callP 13 (.cons (.v 8) (.cons (.c (.int 3)) .nil))) (.bin .mul (.v 3) (.v 4))) .nil)) (.cons (.ret (.c (.bool false))) .nil) .nil) (.cons (.asg (.nm 9) (.prim .tuple (.cons (.fl (.comp [11] (.bin .add (.c (.int 2)) (.call 9 (.cons (.v 1) (.cons (.c (.int 9)) .nil)))) (.nm 11) (.r1 (.call 9 (.cons (.v 1) (.cons (.c (.int 4)) .nil)))) .nop)) .nil))) (.cons (.ife (.or_ (.not_ (.callP 15 (.cons (.callP 3 (.cons (.v 3) (.cons (.v 9) .nil))) (.cons (.v 3) (.cons (.v 9) .nil))))) (.cons (.not_ (.callP 16 (.cons (.callP 4 (.cons (.v 3) .nil)) (.cons (.v 3) .nil)))) (.cons (.not_ (.callP 18 (.cons (.callP 6 (.cons (.v 3) .nil)) (.cons (.v 3) .nil)))) .nil))) (.cons (.ret (.c (.bool false))) .nil) .nil) (.cons (.asg (.nm 10) (.fl (.disp (.cons (.tup (.cons (.c (.str "plain")) (.cons (.v 6) (.cons (.v 5) (.cons (.v 3) .nil))))) (.cons (.tup (.cons (.c (.str "plain")) (.cons (.v 7) (.cons (.neg (.v 5)) (.cons (.bin .mul (.v 3) (.v 4)) .nil))))) (.cons (.tup (.cons (.c (.str "balanced")) (.cons (.v 8) (.cons (.c .none) (.cons (.bin .mul (.v 3) (.v 4)) .nil))))) (.cons (.tup (.cons (.c (.str "factorials")) (.cons (.callP 4 (.cons (.v 3) .nil)) (.cons (.c .none) (.cons (.v 3) .nil))))) (.cons (.tup (.cons (.c (.str "two")) (.cons (.callP 6 (.cons (.v 3) .nil)) (.cons (.c .none) (.cons (.v 3) .nil))))) .nil)))))))) (.cons (.ife (.cmp .ne (.fl (.comp [12] (.v 12) (.nm 12) (.sq (.v 10)) (.not_ (.callP 11 (.cons (.callP 7 (.cons (.ix (.v 12) (.c (.int 0))) (.cons (.ix (.v 12) (.c (.int 1))) (.cons (.ix (.v 12) (.c (.int 2))) .nil)))) (.cons (.ix (.v 12) (.c (.int 3))) .nil)))))) (.fl (.disp .nil))) (.cons (.ret (.c (.bool false))) .nil) .nil) .nil))))))))))) (.cons (.ret (.and_ (.callP 11 (.cons (.callP 0 (.cons (.c (.int 0)) (.cons (.c (.int 7)) .nil))) (.cons (.tup .nil) .nil))) (.cons (.callP 11 (.cons (.callP 6 (.cons (.c (.int 4)) .nil)) (.cons (.tup (.cons (.c (.int 2)) (.cons (.c (.int 4)) .nil))) .nil))) (.cons (.callP 11 (.cons (.callP 1 (.cons (.neg (.c (.int 1))) (.cons (.neg (.c (.int 2))) .nil))) (.cons (.tup (.cons (.c (.int 1)) (.cons (.c (.int 1)) .nil))) .nil))) .nil)))) .nil)))⟩
def mk (i : Nat) (name : Str) (N ps : List Str) (fn : Fn) : FnT := match top i with
  | .FunctionDef _ a b _ _ _ sc _ _ _ => ⟨name, a, b, sc, N, ps, fn⟩
  | _ => ⟨name, ⟨[], [], none, [], [], none, []⟩, [], ⟨.function, [], false, false, []⟩, N, ps, fn⟩
def t_digits_of : FnT := mk 1 "digits_of" ["n", "base", "found"] ["n", "base"] f_digits_of
def t_below_zero : FnT := mk 2 "below_zero" ["n", "base"] ["n", "base"] f_below_zero
def t_balanced : FnT := mk 3 "balanced" ["n", "found", "digit"] ["n"] f_balanced
def t_mixed_digits : FnT := mk 4 "mixed_digits" ["n", "bases", "found", "base"] ["n", "bases"] f_mixed_digits
def t_by_factorials : FnT := mk 5 "by_factorials" ["n", "found", "i"] ["n"] f_by_factorials
def t_two_ahead : FnT := mk 6 "two_ahead" ["most", "found"] ["most"] f_two_ahead
def t_by_two_ahead : FnT := mk 7 "by_two_ahead" ["n", "row", "found", "k"] ["n"] f_by_two_ahead
def t_number_by : FnT := mk 8 "number_by" ["kind", "digits", "base", "found", "many", "k", "row", "by", "place"] ["kind", "digits", "base"] f_number_by
def t__law_draws : FnT := mk 10 "_law_draws" ["script", "many", "draws", "mixed", "k", "cell", "rest", "turn"] ["script", "many"] f__law_draws
def t__law_next : FnT := mk 11 "_law_next" ["w", "many"] ["w", "many"] f__law_next
def t__law_pick : FnT := mk 12 "_law_pick" ["w", "rows"] ["w", "rows"] f__law_pick
def t__law_alike : FnT := mk 13 "_law_alike" ["told", "due", "k"] ["told", "due"] f__law_alike
def t__law_are_digits : FnT := mk 14 "_law_are_digits" ["row", "low", "high", "d"] ["row", "low", "high"] f__law_are_digits
def t__law_value : FnT := mk 15 "_law_value" ["row", "base", "found", "digit"] ["row", "base"] f__law_value
def t__law_product : FnT := mk 16 "_law_product" ["row", "found", "one"] ["row"] f__law_product
def t__law_is_mixed : FnT := mk 17 "_law_is_mixed" ["row", "n", "bases", "k", "d"] ["row", "n", "bases"] f__law_is_mixed
def t__law_is_factorial : FnT := mk 18 "_law_is_factorial" ["row", "n", "total", "k", "i"] ["row", "n"] f__law_is_factorial
def t__law_two : FnT := mk 19 "_law_two" ["most", "row"] ["most"] f__law_two
def t__law_is_two : FnT := mk 20 "_law_is_two" ["places", "n", "k", "p"] ["places", "n"] f__law_is_two
def t_law : FnT := mk 21 "law" ["script", "w", "turn", "n", "sign", "base", "plain", "turned", "three", "bases", "back", "k", "one"] ["script"] f_law
def ts : List FnT := [t_digits_of, t_below_zero, t_balanced, t_mixed_digits, t_by_factorials, t_two_ahead, t_by_two_ahead, t_number_by, t__law_draws, t__law_next, t__law_pick, t__law_alike, t__law_are_digits, t__law_value, t__law_product, t__law_is_mixed, t__law_is_factorial, t__law_two, t__law_is_two, t_law]
def fns : List Fn := [f_digits_of, f_below_zero, f_balanced, f_mixed_digits, f_by_factorials, f_two_ahead, f_by_two_ahead, f_number_by, f__law_draws, f__law_next, f__law_pick, f__law_alike, f__law_are_digits, f__law_value, f__law_product, f__law_is_mixed, f__law_is_factorial, f__law_two, f__law_is_two, f_law]
def fr : List Str := ["abs", "bool", "int", "isinstance", "len", "list", "max", "range", "str", "sum", "tuple"]
theorem ok_all : (ts.all fun t => okFn (glOf 0 ts) fr t) = true := by decide +kernel
def dd (i : Nat) (t : FnT) : He.DefD := ⟨(t.name, none), t.name, t.name, t.params, t.body, t.scope, [], []⟩
def hfn : List He.DefD := ts.map (dd 0)
def hfa : List He.Fa := ts.map (fun t => .glo t.name) ++ fr.map .free
def loose : List Str := (["__name__", "digits_of", "below_zero", "balanced", "mixed_digits", "by_factorials", "two_ahead", "by_two_ahead", "number_by", "_law_draws", "_law_next", "_law_pick", "_law_alike", "_law_are_digits", "_law_value", "_law_product", "_law_is_mixed", "_law_is_factorial", "_law_two", "_law_is_two"] : List Str)
abbrev R : PySem.W.OpenRow := PySem.W.OpenLaw.row lawO
abbrev hk : PySem.W.Hook := He.hookD 4 hfa hfn
def ob (s : PySem.W.SharedT) : He.AlD := He.obsDG 4 hfa hfn (HandSHeadRun.getT s)
theorem ob_eq (s : PySem.W.SharedT) : ob s = hk.obs s.abs := He.obsDG_eq (HandSHeadRun.getT_eq s)
theorem run (w : World) : HandSHeadRun.RunEq R (PySem.W.view R.prog [21]) hk ob 2000 loose w := by
  intro os
  kernel_rfl
theorem b_digits_of (kV doc pm : Value) (an : Option Addr) (cdv ct : Value) (us : List Value) (hl : us.length = t_digits_of.ps.length) : bindArgs (PySem.W.fnOf t_digits_of.name t_digits_of.name t_digits_of.params t_digits_of.body t_digits_of.scope .none kV doc pm an cdv ct) ⟨us, []⟩ = pure (t_digits_of.ps.zip us) := match us, hl with | [_, _], _ => rfl
theorem b_below_zero (kV doc pm : Value) (an : Option Addr) (cdv ct : Value) (us : List Value) (hl : us.length = t_below_zero.ps.length) : bindArgs (PySem.W.fnOf t_below_zero.name t_below_zero.name t_below_zero.params t_below_zero.body t_below_zero.scope .none kV doc pm an cdv ct) ⟨us, []⟩ = pure (t_below_zero.ps.zip us) := match us, hl with | [_, _], _ => rfl
theorem b_balanced (kV doc pm : Value) (an : Option Addr) (cdv ct : Value) (us : List Value) (hl : us.length = t_balanced.ps.length) : bindArgs (PySem.W.fnOf t_balanced.name t_balanced.name t_balanced.params t_balanced.body t_balanced.scope .none kV doc pm an cdv ct) ⟨us, []⟩ = pure (t_balanced.ps.zip us) := match us, hl with | [_], _ => rfl
theorem b_mixed_digits (kV doc pm : Value) (an : Option Addr) (cdv ct : Value) (us : List Value) (hl : us.length = t_mixed_digits.ps.length) : bindArgs (PySem.W.fnOf t_mixed_digits.name t_mixed_digits.name t_mixed_digits.params t_mixed_digits.body t_mixed_digits.scope .none kV doc pm an cdv ct) ⟨us, []⟩ = pure (t_mixed_digits.ps.zip us) := match us, hl with | [_, _], _ => rfl
theorem b_by_factorials (kV doc pm : Value) (an : Option Addr) (cdv ct : Value) (us : List Value) (hl : us.length = t_by_factorials.ps.length) : bindArgs (PySem.W.fnOf t_by_factorials.name t_by_factorials.name t_by_factorials.params t_by_factorials.body t_by_factorials.scope .none kV doc pm an cdv ct) ⟨us, []⟩ = pure (t_by_factorials.ps.zip us) := match us, hl with | [_], _ => rfl
theorem b_two_ahead (kV doc pm : Value) (an : Option Addr) (cdv ct : Value) (us : List Value) (hl : us.length = t_two_ahead.ps.length) : bindArgs (PySem.W.fnOf t_two_ahead.name t_two_ahead.name t_two_ahead.params t_two_ahead.body t_two_ahead.scope .none kV doc pm an cdv ct) ⟨us, []⟩ = pure (t_two_ahead.ps.zip us) := match us, hl with | [_], _ => rfl
theorem b_by_two_ahead (kV doc pm : Value) (an : Option Addr) (cdv ct : Value) (us : List Value) (hl : us.length = t_by_two_ahead.ps.length) : bindArgs (PySem.W.fnOf t_by_two_ahead.name t_by_two_ahead.name t_by_two_ahead.params t_by_two_ahead.body t_by_two_ahead.scope .none kV doc pm an cdv ct) ⟨us, []⟩ = pure (t_by_two_ahead.ps.zip us) := match us, hl with | [_], _ => rfl
theorem b_number_by (kV doc pm : Value) (an : Option Addr) (cdv ct : Value) (us : List Value) (hl : us.length = t_number_by.ps.length) : bindArgs (PySem.W.fnOf t_number_by.name t_number_by.name t_number_by.params t_number_by.body t_number_by.scope .none kV doc pm an cdv ct) ⟨us, []⟩ = pure (t_number_by.ps.zip us) := match us, hl with | [_, _, _], _ => rfl
theorem b__law_draws (kV doc pm : Value) (an : Option Addr) (cdv ct : Value) (us : List Value) (hl : us.length = t__law_draws.ps.length) : bindArgs (PySem.W.fnOf t__law_draws.name t__law_draws.name t__law_draws.params t__law_draws.body t__law_draws.scope .none kV doc pm an cdv ct) ⟨us, []⟩ = pure (t__law_draws.ps.zip us) := match us, hl with | [_, _], _ => rfl
theorem b__law_next (kV doc pm : Value) (an : Option Addr) (cdv ct : Value) (us : List Value) (hl : us.length = t__law_next.ps.length) : bindArgs (PySem.W.fnOf t__law_next.name t__law_next.name t__law_next.params t__law_next.body t__law_next.scope .none kV doc pm an cdv ct) ⟨us, []⟩ = pure (t__law_next.ps.zip us) := match us, hl with | [_, _], _ => rfl
theorem b__law_pick (kV doc pm : Value) (an : Option Addr) (cdv ct : Value) (us : List Value) (hl : us.length = t__law_pick.ps.length) : bindArgs (PySem.W.fnOf t__law_pick.name t__law_pick.name t__law_pick.params t__law_pick.body t__law_pick.scope .none kV doc pm an cdv ct) ⟨us, []⟩ = pure (t__law_pick.ps.zip us) := match us, hl with | [_, _], _ => rfl
theorem b__law_alike (kV doc pm : Value) (an : Option Addr) (cdv ct : Value) (us : List Value) (hl : us.length = t__law_alike.ps.length) : bindArgs (PySem.W.fnOf t__law_alike.name t__law_alike.name t__law_alike.params t__law_alike.body t__law_alike.scope .none kV doc pm an cdv ct) ⟨us, []⟩ = pure (t__law_alike.ps.zip us) := match us, hl with | [_, _], _ => rfl
theorem b__law_are_digits (kV doc pm : Value) (an : Option Addr) (cdv ct : Value) (us : List Value) (hl : us.length = t__law_are_digits.ps.length) : bindArgs (PySem.W.fnOf t__law_are_digits.name t__law_are_digits.name t__law_are_digits.params t__law_are_digits.body t__law_are_digits.scope .none kV doc pm an cdv ct) ⟨us, []⟩ = pure (t__law_are_digits.ps.zip us) := match us, hl with | [_, _, _], _ => rfl
theorem b__law_value (kV doc pm : Value) (an : Option Addr) (cdv ct : Value) (us : List Value) (hl : us.length = t__law_value.ps.length) : bindArgs (PySem.W.fnOf t__law_value.name t__law_value.name t__law_value.params t__law_value.body t__law_value.scope .none kV doc pm an cdv ct) ⟨us, []⟩ = pure (t__law_value.ps.zip us) := match us, hl with | [_, _], _ => rfl
theorem b__law_product (kV doc pm : Value) (an : Option Addr) (cdv ct : Value) (us : List Value) (hl : us.length = t__law_product.ps.length) : bindArgs (PySem.W.fnOf t__law_product.name t__law_product.name t__law_product.params t__law_product.body t__law_product.scope .none kV doc pm an cdv ct) ⟨us, []⟩ = pure (t__law_product.ps.zip us) := match us, hl with | [_], _ => rfl
theorem b__law_is_mixed (kV doc pm : Value) (an : Option Addr) (cdv ct : Value) (us : List Value) (hl : us.length = t__law_is_mixed.ps.length) : bindArgs (PySem.W.fnOf t__law_is_mixed.name t__law_is_mixed.name t__law_is_mixed.params t__law_is_mixed.body t__law_is_mixed.scope .none kV doc pm an cdv ct) ⟨us, []⟩ = pure (t__law_is_mixed.ps.zip us) := match us, hl with | [_, _, _], _ => rfl
theorem b__law_is_factorial (kV doc pm : Value) (an : Option Addr) (cdv ct : Value) (us : List Value) (hl : us.length = t__law_is_factorial.ps.length) : bindArgs (PySem.W.fnOf t__law_is_factorial.name t__law_is_factorial.name t__law_is_factorial.params t__law_is_factorial.body t__law_is_factorial.scope .none kV doc pm an cdv ct) ⟨us, []⟩ = pure (t__law_is_factorial.ps.zip us) := match us, hl with | [_, _], _ => rfl
theorem b__law_two (kV doc pm : Value) (an : Option Addr) (cdv ct : Value) (us : List Value) (hl : us.length = t__law_two.ps.length) : bindArgs (PySem.W.fnOf t__law_two.name t__law_two.name t__law_two.params t__law_two.body t__law_two.scope .none kV doc pm an cdv ct) ⟨us, []⟩ = pure (t__law_two.ps.zip us) := match us, hl with | [_], _ => rfl
theorem b__law_is_two (kV doc pm : Value) (an : Option Addr) (cdv ct : Value) (us : List Value) (hl : us.length = t__law_is_two.ps.length) : bindArgs (PySem.W.fnOf t__law_is_two.name t__law_is_two.name t__law_is_two.params t__law_is_two.body t__law_is_two.scope .none kV doc pm an cdv ct) ⟨us, []⟩ = pure (t__law_is_two.ps.zip us) := match us, hl with | [_, _], _ => rfl
theorem b_law (kV doc pm : Value) (an : Option Addr) (cdv ct : Value) (us : List Value) (hl : us.length = t_law.ps.length) : bindArgs (PySem.W.fnOf t_law.name t_law.name t_law.params t_law.body t_law.scope .none kV doc pm an cdv ct) ⟨us, []⟩ = pure (t_law.ps.zip us) := match us, hl with | [_], _ => rfl
def BindOk (t : FnT) : Prop := ∀ (kV doc pm : Value) (an : Option Addr) (cdv ct : Value) (us : List Value), us.length = t.ps.length → bindArgs (PySem.W.fnOf t.name t.name t.params t.body t.scope .none kV doc pm an cdv ct) ⟨us, []⟩ = pure (t.ps.zip us)
theorem b_all : ∀ t ∈ ts, BindOk t := by
  intro t h
  unfold ts at h
  simp only [List.mem_cons, List.not_mem_nil, or_false] at h
  rcases h with rfl | rfl | rfl | rfl | rfl | rfl | rfl | rfl | rfl | rfl | rfl | rfl | rfl | rfl | rfl | rfl | rfl | rfl | rfl | rfl
  · exact b_digits_of
  · exact b_below_zero
  · exact b_balanced
  · exact b_mixed_digits
  · exact b_by_factorials
  · exact b_two_ahead
  · exact b_by_two_ahead
  · exact b_number_by
  · exact b__law_draws
  · exact b__law_next
  · exact b__law_pick
  · exact b__law_alike
  · exact b__law_are_digits
  · exact b__law_value
  · exact b__law_product
  · exact b__law_is_mixed
  · exact b__law_is_factorial
  · exact b__law_two
  · exact b__law_is_two
  · exact b_law
def lawI : Nat := 19
end Law

namespace Law
open PySem PySem.Spec L2 MP
abbrev Dd (i : Int) : Vl := .d (.int i)
abbrev Tp (ds : List Int) : PyData := .tuple (ds.map .int)
/-- the value of digits -/
def val (b : Int) : List Int → Int
  | [] => 0
  | d :: ds => d * b ^ ds.length + val b ds
/-- how far from the end -/
def mu (n : Int) : Nat := 2 * n.natAbs + if n < 0 then 1 else 0
theorem mu_pos {n b : Int} (hb : 2 ≤ b) (hn : 0 < n) : mu ((n - n % b) / b) < mu n ∧ 0 ≤ (n - n % b) / b ∧ n = (n - n % b) / b * b + n % b := by
  have h1 := Int.emod_nonneg n (show b ≠ 0 by omega)
  have h2 := Int.emod_lt_of_pos n (show 0 < b by omega)
  have h0 := Int.emod_add_mul_ediv n b
  have h3 : (n - n % b) / b = n / b := by
    rw [show n - n % b = b * (n / b) by omega, Int.mul_ediv_cancel_left _ (by omega)]
  have h4 : 0 ≤ n / b := Int.ediv_nonneg (by omega) (by omega)
  rw [h3]
  have h5 : 2 * (n / b) ≤ b * (n / b) := Int.mul_le_mul_of_nonneg_right hb h4
  unfold mu
  refine ⟨?_, h4, by rw [Int.mul_comm]; omega⟩
  split <;> split <;> omega
theorem mu_neg {n b : Int} (hb : b ≤ -2) (hn : n ≠ 0) : mu ((n - n % -b).fdiv b) < mu n ∧ n = (n - n % -b).fdiv b * b + n % -b := by
  have h1 := Int.emod_nonneg n (show -b ≠ 0 by omega)
  have h2 := Int.emod_lt_of_pos n (show 0 < -b by omega)
  have h0 := Int.emod_add_mul_ediv n (-b)
  have h3 : (n - n % -b).fdiv b = -(n / -b) := by
    rw [show n - n % -b = b * -(n / -b) by rw [Int.mul_neg]; have : -b * (n / -b) = -(b * (n / -b)) := Int.neg_mul _ _; omega, Int.mul_fdiv_cancel_left _ (by omega)]
  rw [h3]
  generalize n / -b = q at *
  have e : -b * q = -(b * q) := Int.neg_mul _ _
  have e2 : -q * b = -(b * q) := by rw [Int.neg_mul, Int.mul_comm]
  refine ⟨?_, by omega⟩
  unfold mu
  rcases Int.lt_trichotomy q 0 with hq | hq | hq
  · have h5 := Int.mul_le_mul_of_nonpos_right (show 1 ≤ -b by omega) (show q + 1 ≤ 0 by omega)
    rw [Int.mul_add, Int.mul_one, Int.one_mul] at h5
    split <;> split <;> omega
  · subst hq
    split <;> split <;> omega
  · have h5 : 2 * q ≤ -b * q := Int.mul_le_mul_of_nonneg_right (show 2 ≤ -b by omega) (by omega)
    split <;> split <;> omega
/-- digits: what is said of them -/
structure Digs (b lo hi n : Int) (ds : List Int) : Prop where
  v : val b ds = n
  m : ∀ d ∈ ds, lo ≤ d ∧ d < hi
  h : ds = [] ∨ ds.headD 0 ≠ 0
/-- on the way -/
structure DigW (b lo hi N n : Int) (ds : List Int) : Prop where
  v : n * b ^ ds.length + val b ds = N
  m : ∀ d ∈ ds, lo ≤ d ∧ d < hi
  h : ds = [] ∨ n ≠ 0 ∨ ds.headD 0 ≠ 0
theorem DigW.step {b lo hi N n n' d : Int} {ds : List Int} (w : DigW b lo hi N n ds) (hn : n ≠ 0) (e : n = n' * b + d) (hd : lo ≤ d ∧ d < hi) : DigW b lo hi N n' (d :: ds) := by
  refine ⟨?_, fun x hx => ?_, .inr ?_⟩
  · have := w.v
    show n' * b ^ (ds.length + 1) + (d * b ^ ds.length + val b ds) = N
    rw [Int.pow_succ, ← this, e, Int.add_mul]
    have : n' * (b ^ ds.length * b) = n' * b * b ^ ds.length := by rw [Int.mul_comm (b ^ ds.length) b, Int.mul_assoc]
    omega
  · rcases List.mem_cons.mp hx with rfl | hx
    · exact hd
    · exact w.m x hx
  · by_cases h : n' = 0
    · refine .inr ?_
      show d ≠ 0
      intro z
      rw [h, z] at e
      simp at e
      exact hn e
    · exact .inl h
theorem DigW.done {b lo hi N : Int} {ds : List Int} (w : DigW b lo hi N 0 ds) : Digs b lo hi N ds := by
  refine ⟨by have := w.v; simp at this; exact this, w.m, ?_⟩
  rcases w.h with h | h | h
  · exact .inl h
  · exact absurd rfl h
  · exact .inr h
def dBody : Ss := (.cons (.asg (.nm 2) (.bin .add (.tup (.cons (.bin .mod (.v 0) (.prim .abs (.cons (.v 1) .nil))) .nil)) (.v 2))) (.cons (.asg (.nm 0) (.bin .fdiv (.bin .sub (.v 0) (.bin .mod (.v 0) (.prim .abs (.cons (.v 1) .nil)))) (.v 1))) .nil))
theorem dBody_run (C : Orc) (x b B y : Int) (ds : List Int) (hB : (if b < 0 then -b else b) = B) (hp : 0 < B) (hy : binD .fdiv (.int (x - x % B)) (.int b) = some (.int y)) (hl : ds.length ≤ 200001) :
    exs C dBody [some (Dd x), some (Dd b), some (.d (Tp ds))] [] = some (.nx [some (Dd y), some (Dd b), some (.d (Tp (x % B :: ds)))], []) := by
  have h1 : ([PyData.int (x % B)] : List PyData).length + (ds.map PyData.int).length ≤ 16777216 := by simp; omega
  simp only [dBody, exs, ex, ev, evs, evT, evI, evF, evAnd, evOr, condOf, partOf, sCons, sNil, sAsg, sPar, sAug, augD, sIf, sRet, sDrop, gNm, gsCons, gsNil, gTp, cBin, cNeg, cTup, cCons, cNil, cVar, cC, cPrim, curs, curS, cur, primD, toDs, toDs_map, toB, ofB, cCmpB, cNot, cAnd, cOr, cIf, cYes, cNoPart, cPart, cFl, cFm, cDisp, cCall, cIx, ixV, ixL, cmpV, cmpD, eqD, ltQ, leI, gtI, isD, inQ, isOf, b_sub, b_add, Option.map, List.map_cons, List.map_nil, List.getElem?_cons_zero, List.getElem?_cons_succ, List.getElem?_nil, List.length_cons, List.length_nil, List.set_cons_zero, List.set_cons_succ, List.set_nil, List.cons_append, List.nil_append, Nat.zero_add, Nat.reduceAdd, okLen1, okLen2, okLen3, okLen4, okLen5, okLen0, ↓reduceIte, if_true, if_false, Bool.false_eq_true, Bool.not_true, Bool.not_false, hB, b_mod _ _ hp, b_addT _ _ h1, hy]
  rfl
theorem mapint_len (ds : List Int) : (ds.map PyData.int).length = ds.length := List.length_map _
theorem natAbs_pos' {b : Int} (h : 2 ≤ b) : (b.natAbs : Int) = b := by omega
theorem c_ne0 (C : Orc) (x : Int) (r : Env') : toB (ev C (.cmp .ne (.v 0) (.c (.int 0)))) (some (Dd x) :: r) [] = some (!(x == 0), []) := by
  simp only [exs, ex, ev, evs, evT, evI, evF, evAnd, evOr, condOf, partOf, sCons, sNil, sAsg, sPar, sAug, augD, sIf, sRet, sDrop, gNm, gsCons, gsNil, gTp, cBin, cNeg, cTup, cCons, cNil, cVar, cC, cPrim, curs, curS, cur, primD, toDs, toDs_map, toB, ofB, cCmpB, cNot, cAnd, cOr, cIf, cYes, cNoPart, cPart, cFl, cFm, cDisp, cCall, cIx, ixV, ixL, cmpV, cmpD, eqD, ltQ, leI, gtI, isD, inQ, isOf, b_sub, b_add, Option.map, List.map_cons, List.map_nil, List.getElem?_cons_zero, List.getElem?_cons_succ, List.getElem?_nil, List.length_cons, List.length_nil, List.set_cons_zero, List.set_cons_succ, List.set_nil, List.cons_append, List.nil_append, Nat.zero_add, Nat.reduceAdd, okLen1, okLen2, okLen3, okLen4, okLen5, okLen0, ↓reduceIte, if_true, if_false, Bool.false_eq_true, Bool.not_true, Bool.not_false]
theorem digs_run (k : Nat) (n b : Int) (hb : (2 ≤ b ∧ b ≤ 16 ∧ 0 ≤ n) ∨ (b ≤ -2 ∧ -16 ≤ b)) (hn : n.natAbs ≤ 100000) :
    ∃ ds : List Int, callL fns (k + 1) 0 [Dd n, Dd b] [] = some (.d (Tp ds), []) ∧ Digs b 0 b.natAbs n ds ∧ ds.length ≤ 200001 := by
  have hbn : b ≠ 0 := by omega
  obtain ⟨ρ', h', e, ds, rfl, rfl, hd, hl⟩ := whileRun (c := toB (ev (callL fns k) (.cmp .ne (.v 0) (.c (.int 0))))) (b := exs (callL fns k) dBody)
    (fun m ρ h => ∃ (x : Int) (ds : List Int), ρ = [some (Dd x), some (Dd b), some (.d (Tp ds))] ∧ h = [] ∧ m = mu x ∧ DigW b 0 b.natAbs n x ds ∧ ds.length + mu x ≤ 200001 ∧ (2 ≤ b → 0 ≤ x))
    (fun ρ h => ∃ ds : List Int, ρ = [some (Dd 0), some (Dd b), some (.d (Tp ds))] ∧ h = [] ∧ Digs b 0 b.natAbs n ds ∧ ds.length ≤ 200001)
    (by
      rintro m ρ h ⟨x, ds, rfl, rfl, rfl, w, hl, hx⟩
      refine ⟨!(x == 0), [], c_ne0 _ _ _, ?_⟩
      by_cases h0 : x = 0
      · subst h0
        exact .inl ⟨rfl, ds, rfl, rfl, w.done, by omega⟩
      · refine .inr ⟨by simp [h0], ?_⟩
        rcases hb with ⟨b1, b2, _⟩ | ⟨b1, b2⟩
        · obtain ⟨m1, m2, m3⟩ := mu_pos b1 (show 0 < x by have := hx b1; omega)
          refine ⟨_, _, .inl (dBody_run _ x b b ((x - x % b) / b) ds (by rw [if_neg (by omega)]) (by omega) (b_div _ _ (by omega) (Int.lt_of_le_of_lt b2 (by decide))) (by omega)), mu ((x - x % b) / b), m1, _, _, rfl, rfl, rfl, ?_, ?_, fun _ => m2⟩
          · refine w.step h0 m3 ⟨Int.emod_nonneg _ hbn, ?_⟩
            rw [natAbs_pos' b1]
            exact Int.emod_lt_of_pos _ (by omega)
          · show ds.length + 1 + _ ≤ _; omega
        · obtain ⟨m1, m3⟩ := mu_neg b1 h0
          refine ⟨_, _, .inl (dBody_run _ x b (-b) ((x - x % -b).fdiv b) ds (by rw [if_pos (by omega)]) (by omega) (b_divN _ _ (by omega) (by omega)) (by omega)), mu ((x - x % -b).fdiv b), m1, _, _, rfl, rfl, rfl, ?_, ?_, fun q => by omega⟩
          · refine w.step h0 m3 ⟨Int.emod_nonneg _ (by omega), ?_⟩
            rw [show (b.natAbs : Int) = -b by omega]
            exact Int.emod_lt_of_pos _ (by omega)
          · show ds.length + 1 + _ ≤ _; omega)
    lots (mu n) [some (Dd n), some (Dd b), some (.d (Tp []))] [] (by unfold mu lots; split <;> omega)
    ⟨n, [], rfl, rfl, rfl, ⟨by simp [val], fun _ h => absurd h (by simp), .inl rfl⟩, by unfold mu; split <;> simp <;> omega, fun q => by omega⟩
  refine ⟨ds, fnRun (fn := f_digits_of) rfl rfl ?_, hd, hl⟩
  show exs (callL fns k) (.cons (.asg (.nm 2) (.tup .nil)) (.cons (.whl (.cmp .ne (.v 0) (.c (.int 0))) dBody) (.cons (.ret (.v 2)) .nil))) [some (Dd n), some (Dd b), none] [] = _
  have e1 : ex (callL fns k) (.asg (.nm 2) (.tup .nil)) [some (Dd n), some (Dd b), none] [] = some (.nx [some (Dd n), some (Dd b), some (.d (Tp []))], []) := rfl
  refine seqRun e1 (seqRun (a := ex (callL fns k) (.whl (.cmp .ne (.v 0) (.c (.int 0))) dBody)) e ?_)
  rfl
theorem below_run (k : Nat) (n b : Int) (hb : b ≤ -2 ∧ -16 ≤ b) (hn : n.natAbs ≤ 100000) :
    ∃ ds : List Int, callL fns (k + 2) 1 [Dd n, Dd b] [] = some (.d (Tp ds), []) ∧ Digs b 0 b.natAbs n ds ∧ ds.length ≤ 200001 := by
  obtain ⟨ds, e, hd, hl⟩ := digs_run k n b (.inr hb) hn
  refine ⟨ds, fnRun (fn := f_below_zero) rfl rfl ?_, hd, hl⟩
  show exs (callL fns (k + 1)) (.cons (.ret (.callP 0 (.cons (.v 0) (.cons (.v 1) .nil)))) .nil) [some (Dd n), some (Dd b)] [] = _
  simp only [exs, ex, ev, evs, evT, evI, evF, evAnd, evOr, condOf, partOf, sCons, sNil, sAsg, sPar, sAug, augD, sIf, sRet, sDrop, gNm, gsCons, gsNil, gTp, cBin, cNeg, cTup, cCons, cNil, cVar, cC, cPrim, curs, curS, cur, primD, toDs, toDs_map, toB, ofB, cCmpB, cNot, cAnd, cOr, cIf, cYes, cNoPart, cPart, cFl, cFm, cDisp, cCall, cIx, ixV, ixL, cmpV, cmpD, eqD, ltQ, leI, gtI, isD, inQ, isOf, b_sub, b_add, Option.map, List.map_cons, List.map_nil, List.getElem?_cons_zero, List.getElem?_cons_succ, List.getElem?_nil, List.length_cons, List.length_nil, List.set_cons_zero, List.set_cons_succ, List.set_nil, List.cons_append, List.nil_append, Nat.zero_add, Nat.reduceAdd, okLen1, okLen2, okLen3, okLen4, okLen5, okLen0, ↓reduceIte, if_true, if_false, Bool.false_eq_true, Bool.not_true, Bool.not_false, cCallP, pureV, e]
end Law

namespace Law
open PySem PySem.Spec L2 MP
def bBody : Ss := (.cons (.asg (.nm 2) (.bin .sub (.bin .mod (.bin .add (.v 0) (.c (.int 1))) (.c (.int 3))) (.c (.int 1)))) (.cons (.asg (.nm 1) (.bin .add (.tup (.cons (.v 2) .nil)) (.v 1))) (.cons (.asg (.nm 0) (.bin .fdiv (.bin .sub (.v 0) (.v 2)) (.c (.int 3)))) .nil)))
theorem bBody_run (C : Orc) (x : Int) (y : Option Vl) (ds : List Int) (hl : ds.length ≤ 200001) :
    exs C bBody [some (Dd x), some (.d (Tp ds)), y] [] = some (.nx [some (Dd ((x - ((x + 1) % 3 - 1)) / 3)), some (.d (Tp (((x + 1) % 3 - 1) :: ds))), some (Dd ((x + 1) % 3 - 1))], []) := by
  have h1 : ([PyData.int ((x + 1) % 3 - 1)] : List PyData).length + (ds.map PyData.int).length ≤ 16777216 := by simp; omega
  have h2 : ∀ z : Int, binD .fdiv (.int z) (.int 3) = some (.int (z / 3)) := fun z => rfl
  have h3 : ∀ z : Int, binD .mod (.int z) (.int 3) = some (.int (z % 3)) := fun z => rfl
  simp only [bBody, exs, ex, ev, evs, evT, evI, evF, evAnd, evOr, condOf, partOf, sCons, sNil, sAsg, sPar, sAug, augD, sIf, sRet, sDrop, gNm, gsCons, gsNil, gTp, cBin, cNeg, cTup, cCons, cNil, cVar, cC, cPrim, curs, curS, cur, primD, toDs, toDs_map, toB, ofB, cCmpB, cNot, cAnd, cOr, cIf, cYes, cNoPart, cPart, cFl, cFm, cDisp, cCall, cIx, ixV, ixL, cmpV, cmpD, eqD, ltQ, leI, gtI, isD, inQ, isOf, b_sub, b_add, Option.map, List.map_cons, List.map_nil, List.getElem?_cons_zero, List.getElem?_cons_succ, List.getElem?_nil, List.length_cons, List.length_nil, List.set_cons_zero, List.set_cons_succ, List.set_nil, List.cons_append, List.nil_append, Nat.zero_add, Nat.reduceAdd, okLen1, okLen2, okLen3, okLen4, okLen5, okLen0, ↓reduceIte, if_true, if_false, Bool.false_eq_true, Bool.not_true, Bool.not_false, h2, h3, b_addT _ _ h1]
  rfl
theorem bal_run (k : Nat) (n : Int) (hn : n.natAbs ≤ 100000) :
    ∃ ds : List Int, callL fns (k + 1) 2 [Dd n] [] = some (.d (Tp ds), []) ∧ Digs 3 (-1) 2 n ds ∧ ds.length ≤ 200001 := by
  obtain ⟨ρ', h', e, ds, y, rfl, rfl, hd, hl⟩ := whileRun (c := toB (ev (callL fns k) (.cmp .ne (.v 0) (.c (.int 0))))) (b := exs (callL fns k) bBody)
    (fun m ρ h => ∃ (x : Int) (ds : List Int) (y : Option Vl), ρ = [some (Dd x), some (.d (Tp ds)), y] ∧ h = [] ∧ m = x.natAbs ∧ DigW 3 (-1) 2 n x ds ∧ ds.length + x.natAbs ≤ 200001)
    (fun ρ h => ∃ (ds : List Int) (y : Option Vl), ρ = [some (Dd 0), some (.d (Tp ds)), y] ∧ h = [] ∧ Digs 3 (-1) 2 n ds ∧ ds.length ≤ 200001)
    (by
      rintro m ρ h ⟨x, ds, y, rfl, rfl, rfl, w, hl⟩
      refine ⟨!(x == 0), [], c_ne0 _ _ _, ?_⟩
      by_cases h0 : x = 0
      · subst h0
        exact .inl ⟨rfl, ds, y, rfl, rfl, w.done, by omega⟩
      · refine .inr ⟨by simp [h0], _, _, .inl (bBody_run _ x y ds (by omega)), ((x - ((x + 1) % 3 - 1)) / 3).natAbs, by omega, _, _, _, rfl, rfl, rfl, w.step h0 (by omega) (by omega), ?_⟩
        show ds.length + 1 + _ ≤ _; omega)
    lots n.natAbs [some (Dd n), some (.d (Tp [])), none] [] (by unfold lots; omega)
    ⟨n, [], none, rfl, rfl, rfl, ⟨by simp [val], fun _ h => absurd h (by simp), .inl rfl⟩, by simp; omega⟩
  refine ⟨ds, fnRun (fn := f_balanced) rfl rfl ?_, hd, hl⟩
  show exs (callL fns k) (.cons (.asg (.nm 1) (.tup .nil)) (.cons (.whl (.cmp .ne (.v 0) (.c (.int 0))) bBody) (.cons (.ret (.v 1)) .nil))) [some (Dd n), none, none] [] = _
  have e1 : ex (callL fns k) (.asg (.nm 1) (.tup .nil)) [some (Dd n), none, none] [] = some (.nx [some (Dd n), some (.d (Tp [])), none], []) := rfl
  refine seqRun e1 (seqRun (a := ex (callL fns k) (.whl (.cmp .ne (.v 0) (.c (.int 0))) bBody)) e ?_)
  rfl

/-! ### values, products -/
theorem drop_one {α : Type} {xs : List α} {j : Nat} {x : α} (h : xs[j]? = some x) : xs.take (j + 1) = xs.take j ++ [x] := by
  rw [List.take_add_one, h]
  rfl
/-- a fold by a for loop -/
theorem foldRun {g : Cg} {b : Cs} {h : Hm} (f : Int → Int → Int) (mk : Int → Option Vl → Env') (xs : List Int) (ok : Int → Prop) (hok : ∀ a x, x ∈ xs → ok a → ok (f a x))
    (hg : ∀ a y x, g (Dd x) (mk a y) h = some (mk a (some (Dd x)), h)) (hb : ∀ a x, x ∈ xs → ok a → b (mk a (some (Dd x))) h = some (.nx (mk (f a x) (some (Dd x))), h)) :
    ∀ (a : Int) (y : Option Vl), ok a → ∃ y', iterF g b (xs.map Dd) (mk a y) h = some (.nx (mk (xs.foldl f a) y'), h) := by
  induction xs with
  | nil => intro a y _; exact ⟨y, rfl⟩
  | cons x xs ih =>
    intro a y ha
    obtain ⟨y', e⟩ := ih (fun a z hz => hok a z (List.mem_cons_of_mem _ hz)) (fun a z hz => hb a z (List.mem_cons_of_mem _ hz)) (f a x) (some (Dd x)) (hok a x List.mem_cons_self ha)
    refine ⟨y', ?_⟩
    show iterF g b (Dd x :: xs.map Dd) (mk a y) h = _
    unfold iterF
    rw [hg]
    simp only
    rw [hb a x List.mem_cons_self ha]
    exact e
theorem foldl_val (b : Int) : ∀ (ds : List Int) (a : Int), ds.foldl (fun a d => a * b + d) a = a * b ^ ds.length + val b ds
  | [], a => by simp [val]
  | d :: ds, a => by
    show ds.foldl _ (a * b + d) = _
    rw [foldl_val b ds (a * b + d)]
    show (a * b + d) * b ^ ds.length + val b ds = a * b ^ (ds.length + 1) + (d * b ^ ds.length + val b ds)
    rw [Int.pow_succ, Int.add_mul, Int.mul_assoc a b, Int.mul_comm b]
    omega
theorem sq_map (C : Orc) (i : Nat) (ρ : Env') (h : Hm) (ds : List Int) (e : ρ[i]? = some (some (.d (Tp ds)))) : evI C (.sq (.v i)) ρ h = some (ds.map Dd, h) := by
  show iSq (cVar i) ρ h = _
  unfold iSq cVar
  rw [e]
  show some ((ds.map PyData.int).map Vl.d, h) = _
  rw [List.map_map]
  rfl
theorem value_run (k : Nat) (b : Int) (ds : List Int) (hb : b.natAbs < 18446744073709551616) :
    callL fns (k + 1) 13 [.d (Tp ds), Dd b] [] = some (Dd (val b ds), []) := by
  refine fnRun (fn := f__law_value) rfl rfl ?_
  show exs (callL fns k) (.cons (.asg (.nm 2) (.c (.int 0))) (.cons (.for_ (.nm 3) (.sq (.v 0)) (.cons (.asg (.nm 2) (.bin .add (.bin .mul (.v 2) (.v 1)) (.v 3))) .nil)) (.cons (.ret (.v 2)) .nil))) [some (.d (Tp ds)), some (Dd b), none, none] [] = _
  have e1 : ex (callL fns k) (.asg (.nm 2) (.c (.int 0))) [some (.d (Tp ds)), some (Dd b), none, none] [] = some (.nx [some (.d (Tp ds)), some (Dd b), some (Dd 0), none], []) := rfl
  obtain ⟨y', e⟩ := foldRun (g := evT (callL fns k) (.nm 3)) (b := exs (callL fns k) (.cons (.asg (.nm 2) (.bin .add (.bin .mul (.v 2) (.v 1)) (.v 3))) .nil)) (h := []) (fun a d => a * b + d) (fun a y => [some (.d (Tp ds)), some (Dd b), some (Dd a), y]) ds (fun _ => True) (fun _ _ _ _ => trivial)
    (fun a y x => rfl) (fun a x _ _ => by simp only [exs, ex, ev, evs, evT, evI, evF, evAnd, evOr, condOf, partOf, sCons, sNil, sAsg, sPar, sAug, augD, sIf, sRet, sDrop, gNm, gsCons, gsNil, gTp, cBin, cNeg, cTup, cCons, cNil, cVar, cC, cPrim, curs, curS, cur, primD, toDs, toDs_map, toB, ofB, cCmpB, cNot, cAnd, cOr, cIf, cYes, cNoPart, cPart, cFl, cFm, cDisp, cCall, cIx, ixV, ixL, cmpV, cmpD, eqD, ltQ, leI, gtI, isD, inQ, isOf, b_sub, b_add, Option.map, List.map_cons, List.map_nil, List.getElem?_cons_zero, List.getElem?_cons_succ, List.getElem?_nil, List.length_cons, List.length_nil, List.set_cons_zero, List.set_cons_succ, List.set_nil, List.cons_append, List.nil_append, Nat.zero_add, Nat.reduceAdd, okLen1, okLen2, okLen3, okLen4, okLen5, okLen0, ↓reduceIte, if_true, if_false, Bool.false_eq_true, Bool.not_true, Bool.not_false, b_mul a b (.inr hb)]) 0 none trivial
  refine stSeq e1 (forSeq (sq_map _ 0 _ _ ds rfl) e ?_)
  rw [foldl_val]
  simp only [exs, ex, ev, evs, evT, evI, evF, evAnd, evOr, condOf, partOf, sCons, sNil, sAsg, sPar, sAug, augD, sIf, sRet, sDrop, gNm, gsCons, gsNil, gTp, cBin, cNeg, cTup, cCons, cNil, cVar, cC, cPrim, curs, curS, cur, primD, toDs, toDs_map, toB, ofB, cCmpB, cNot, cAnd, cOr, cIf, cYes, cNoPart, cPart, cFl, cFm, cDisp, cCall, cIx, ixV, ixL, cmpV, cmpD, eqD, ltQ, leI, gtI, isD, inQ, isOf, b_sub, b_add, Option.map, List.map_cons, List.map_nil, List.getElem?_cons_zero, List.getElem?_cons_succ, List.getElem?_nil, List.length_cons, List.length_nil, List.set_cons_zero, List.set_cons_succ, List.set_nil, List.cons_append, List.nil_append, Nat.zero_add, Nat.reduceAdd, okLen1, okLen2, okLen3, okLen4, okLen5, okLen0, ↓reduceIte, if_true, if_false, Bool.false_eq_true, Bool.not_true, Bool.not_false, Int.zero_mul, Int.zero_add]
def prodI (ds : List Int) : Int := ds.foldl (fun a d => a * d) 1
/-- over a list or a tuple of ints -/
theorem sq_map2 (C : Orc) (i : Nat) (ρ : Env') (h : Hm) (ds : List Int) (d : PyData) (hd : d = .tuple (ds.map .int) ∨ d = .list (ds.map .int)) (e : ρ[i]? = some (some (.d d))) : evI C (.sq (.v i)) ρ h = some (ds.map Dd, h) := by
  show iSq (cVar i) ρ h = _
  unfold iSq cVar
  rw [e]
  rcases hd with rfl | rfl
  · show some ((ds.map PyData.int).map Vl.d, h) = _
    rw [List.map_map]
    rfl
  · show some ((ds.map PyData.int).map Vl.d, h) = _
    rw [List.map_map]
    rfl
theorem product_run (k : Nat) (ds : List Int) (d : PyData) (hd : d = .tuple (ds.map .int) ∨ d = .list (ds.map .int)) (hb : ∀ x ∈ ds, x.natAbs < 18446744073709551616) :
    callL fns (k + 1) 14 [.d d] [] = some (Dd (prodI ds), []) := by
  refine fnRun (fn := f__law_product) rfl rfl ?_
  show exs (callL fns k) (.cons (.asg (.nm 1) (.c (.int 1))) (.cons (.for_ (.nm 2) (.sq (.v 0)) (.cons (.asg (.nm 1) (.bin .mul (.v 1) (.v 2))) .nil)) (.cons (.ret (.v 1)) .nil))) [some (.d d), none, none] [] = _
  have e1 : ex (callL fns k) (.asg (.nm 1) (.c (.int 1))) [some (.d d), none, none] [] = some (.nx [some (.d d), some (Dd 1), none], []) := rfl
  obtain ⟨y', e⟩ := foldRun (g := evT (callL fns k) (.nm 2)) (b := exs (callL fns k) (.cons (.asg (.nm 1) (.bin .mul (.v 1) (.v 2))) .nil)) (h := []) (fun a d => a * d) (fun a y => [some (.d d), some (Dd a), y]) ds (fun _ => True) (fun _ _ _ _ => trivial)
    (fun a y x => rfl) (fun a x hx _ => by simp only [exs, ex, ev, evs, evT, evI, evF, evAnd, evOr, condOf, partOf, sCons, sNil, sAsg, sPar, sAug, augD, sIf, sRet, sDrop, gNm, gsCons, gsNil, gTp, cBin, cNeg, cTup, cCons, cNil, cVar, cC, cPrim, curs, curS, cur, primD, toDs, toDs_map, toB, ofB, cCmpB, cNot, cAnd, cOr, cIf, cYes, cNoPart, cPart, cFl, cFm, cDisp, cCall, cIx, ixV, ixL, cmpV, cmpD, eqD, ltQ, leI, gtI, isD, inQ, isOf, b_sub, b_add, Option.map, List.map_cons, List.map_nil, List.getElem?_cons_zero, List.getElem?_cons_succ, List.getElem?_nil, List.length_cons, List.length_nil, List.set_cons_zero, List.set_cons_succ, List.set_nil, List.cons_append, List.nil_append, Nat.zero_add, Nat.reduceAdd, okLen1, okLen2, okLen3, okLen4, okLen5, okLen0, ↓reduceIte, if_true, if_false, Bool.false_eq_true, Bool.not_true, Bool.not_false, b_mul a x (.inr (hb x hx))]) 1 none trivial
  refine stSeq e1 (forSeq (sq_map2 _ 0 _ _ ds d hd rfl) e ?_)
  simp only [exs, ex, ev, evs, evT, evI, evF, evAnd, evOr, condOf, partOf, sCons, sNil, sAsg, sPar, sAug, augD, sIf, sRet, sDrop, gNm, gsCons, gsNil, gTp, cBin, cNeg, cTup, cCons, cNil, cVar, cC, cPrim, curs, curS, cur, primD, toDs, toDs_map, toB, ofB, cCmpB, cNot, cAnd, cOr, cIf, cYes, cNoPart, cPart, cFl, cFm, cDisp, cCall, cIx, ixV, ixL, cmpV, cmpD, eqD, ltQ, leI, gtI, isD, inQ, isOf, b_sub, b_add, Option.map, List.map_cons, List.map_nil, List.getElem?_cons_zero, List.getElem?_cons_succ, List.getElem?_nil, List.length_cons, List.length_nil, List.set_cons_zero, List.set_cons_succ, List.set_nil, List.cons_append, List.nil_append, Nat.zero_add, Nat.reduceAdd, okLen1, okLen2, okLen3, okLen4, okLen5, okLen0, ↓reduceIte, if_true, if_false, Bool.false_eq_true, Bool.not_true, Bool.not_false]
  rfl

/-! ### are they digits -/
theorem shp_ints (n : Nat) : ∀ ds : List Int, (ds.map PyData.int).all (shp (n + 1)) = true
  | [] => rfl
  | d :: ds => by
    rw [List.map_cons, List.all_cons, shp_ints n ds]
    rfl
theorem shp_tup (ds : List Int) : shp64 (Tp ds) = true := shp_ints 62 ds
theorem shp_lst (ds : List Int) : shp64 (.list (ds.map .int)) = true := shp_ints 62 ds
theorem eq_nilT (ds : List Int) (h : Hm) : cmpV .eq h (.d (Tp ds)) (.d (.tuple [])) = some (ds.isEmpty) := by
  show eqD (Tp ds) (.tuple []) = _
  unfold eqD
  simp only
  rw [if_pos (by rw [shp_tup]; rfl)]
  cases ds <;> rfl
theorem ne_nn (h : Hm) : cmpV .ne h (.d (.list [])) (.d (.list [])) = some false := rfl
theorem compRun {own : List Nat} {a : E} {t : T} {i : I} {q : E} {C : Orc} {ρ : Env'} {h h1 : Hm} {xs : List Vl} {ys : List Vl} {h2 : Hm} (ei : evI C i ρ h = some (xs, h1)) (hl : xs.length ≤ 16777216) (e : compL (evT C t) (condOf q (ev C q)) (ev C a) (wipeE ρ own) xs h1 = some (ys, h2)) : evF C (.comp own a t i q) ρ h = some (ys, h2) := by
  show cComp own (ev C a) (evT C t) (evI C i) (condOf q (ev C q)) ρ h = _
  unfold cComp
  rw [ei]
  simp only
  rw [if_pos (okLen_of hl), e]
theorem flRun {f : F} {C : Orc} {ρ : Env'} {h h1 : Hm} {ds : List PyData} (e : evF C f ρ h = some (ds.map .d, h1)) : ev C (.fl f) ρ h = some (.d (.list ds), h1) := by
  show cFl (evF C f) ρ h = _
  unfold cFl
  rw [e]
  simp only [toDs_map]
theorem areDigits_run (k : Nat) (lo hi : Int) (ds : List Int) (hm : ∀ d ∈ ds, lo ≤ d ∧ d < hi) (hh : ds = [] ∨ ds.headD 0 ≠ 0) (hl : ds.length ≤ 200001) :
    callL fns (k + 1) 12 [.d (Tp ds), Dd lo, Dd hi] [] = some (.d (.bool true), []) := by
  refine fnRun (fn := f__law_are_digits) rfl rfl ?_
  have ec : ev (callL fns k) (.fl (.comp [3] (.v 3) (.nm 3) (.sq (.v 0)) (.or_ (.not_ (.prim .isInt (.cons (.v 3) .nil))) (.cons (.prim .isBool (.cons (.v 3) .nil)) (.cons (.not_ (.ch2 .le .lt (.v 1) (.v 3) (.v 2))) .nil))))) [some (.d (Tp ds)), some (Dd lo), some (Dd hi), none] [] = some (.d (.list []), []) := by
    refine flRun (ds := []) (compRun (sq_map _ 0 _ _ ds rfl) (by rw [List.length_map]; omega) (compNone fun x hx => ?_))
    obtain ⟨d, hd1, rfl⟩ := List.mem_map.mp hx
    obtain ⟨h1, h2⟩ := hm d hd1
    refine ⟨_, rfl, ?_⟩
    show toB (ev (callL fns k) _) [some (.d (Tp ds)), some (Dd lo), some (Dd hi), some (Dd d)] [] = _
    have h3 : decide (lo ≤ d) = true := decide_eq_true h1
    have h4 : decide (d < hi) = true := decide_eq_true h2
    simp only [exs, ex, ev, evs, evT, evI, evF, evAnd, evOr, condOf, partOf, sCons, sNil, sAsg, sPar, sAug, augD, sIf, sRet, sDrop, gNm, gsCons, gsNil, gTp, cBin, cNeg, cTup, cCons, cNil, cVar, cC, cPrim, curs, curS, cur, primD, toDs, toDs_map, toB, ofB, cCmpB, cNot, cAnd, cOr, cIf, cYes, cNoPart, cPart, cFl, cFm, cDisp, cCall, cIx, ixV, ixL, cmpV, cmpD, eqD, ltQ, leI, gtI, isD, inQ, isOf, b_sub, b_add, Option.map, List.map_cons, List.map_nil, List.getElem?_cons_zero, List.getElem?_cons_succ, List.getElem?_nil, List.length_cons, List.length_nil, List.set_cons_zero, List.set_cons_succ, List.set_nil, List.cons_append, List.nil_append, Nat.zero_add, Nat.reduceAdd, okLen1, okLen2, okLen3, okLen4, okLen5, okLen0, ↓reduceIte, if_true, if_false, Bool.false_eq_true, Bool.not_true, Bool.not_false, cCh2, h3, h4]
  refine ifNo (or2 (notR (r := true) rfl) (cmpR ec (y := .d (.list [])) rfl rfl)) (retR (ofTB (r := true) ?_))
  cases ds with
  | nil => rfl
  | cons d r =>
    have h2 : d ≠ 0 := by
      rcases hh with h | h
      · cases h
      · exact h
    refine or2 (cmpR (x := .d (Tp (d :: r))) rfl rfl (eq_nilT _ _)) (cmpR (x := Dd d) (ixR (x := .d (Tp (d :: r))) rfl rfl (atT [] (d :: r) (Int.le_refl 0) rfl)) rfl ?_)
    show some (!(d == 0)) = _
    simp [h2]

/-! ### mixed -/
/-- the mixed digits' value -/
def mval : List Int → List Int → Int
  | [], [d] => d
  | b :: bs, d :: ds => d * prodI (b :: bs) + mval bs ds
  | _, _ => 0
theorem foldl_mul (ds : List Int) : ∀ a : Int, ds.foldl (fun a d => a * d) a = a * prodI ds := by
  induction ds with
  | nil => intro a; simp [prodI]
  | cons d ds ih =>
    intro a
    show ds.foldl _ (a * d) = a * ds.foldl _ (1 * d)
    rw [ih, ih, Int.one_mul, Int.mul_assoc]
theorem prod_cons (d : Int) (ds : List Int) : prodI (d :: ds) = d * prodI ds := by
  show ds.foldl _ (1 * d) = _
  rw [foldl_mul, Int.one_mul]
def mBody : Ss := (.cons (.asg (.nm 2) (.bin .add (.tup (.cons (.bin .mod (.v 0) (.v 3)) .nil)) (.v 2))) (.cons (.asg (.nm 0) (.bin .fdiv (.v 0) (.v 3))) .nil))
theorem mBody_run (C : Orc) (x b : Int) (s0 : Option Vl) (ds : List Int) (hb : 2 ≤ b ∧ b ≤ 100) (hl : ds.length ≤ 200001) :
    exs C mBody [some (Dd x), s0, some (.d (Tp ds)), some (Dd b)] [] = some (.nx [some (Dd (x / b)), s0, some (.d (Tp (x % b :: ds))), some (Dd b)], []) := by
  have h1 : ([PyData.int (x % b)] : List PyData).length + (ds.map PyData.int).length ≤ 16777216 := by simp; omega
  have h2 := b_mod x b (by omega)
  have h3 := b_div x b (by omega) (Int.lt_of_le_of_lt hb.2 (by decide))
  simp only [mBody, exs, ex, ev, evs, evT, evI, evF, evAnd, evOr, condOf, partOf, sCons, sNil, sAsg, sPar, sAug, augD, sIf, sRet, sDrop, gNm, gsCons, gsNil, gTp, cBin, cNeg, cTup, cCons, cNil, cVar, cC, cPrim, curs, curS, cur, primD, toDs, toDs_map, toB, ofB, cCmpB, cNot, cAnd, cOr, cIf, cYes, cNoPart, cPart, cFl, cFm, cDisp, cCall, cIx, ixV, ixL, cmpV, cmpD, eqD, ltQ, leI, gtI, isD, inQ, isOf, b_sub, b_add, Option.map, List.map_cons, List.map_nil, List.getElem?_cons_zero, List.getElem?_cons_succ, List.getElem?_nil, List.length_cons, List.length_nil, List.set_cons_zero, List.set_cons_succ, List.set_nil, List.cons_append, List.nil_append, Nat.zero_add, Nat.reduceAdd, okLen1, okLen2, okLen3, okLen4, okLen5, okLen0, ↓reduceIte, if_true, if_false, Bool.false_eq_true, Bool.not_true, Bool.not_false, h2, h3, b_addT _ _ h1]
  rfl
end Law

namespace Law
open PySem PySem.Spec L2 MP
def mv : List Int → List Int → Int
  | b :: bs, d :: ds => d * prodI bs + mv bs ds
  | _, _ => 0
structure MixW (N n : Int) (bs ds : List Int) : Prop where
  l : ds.length = bs.length
  m : ∀ (i : Nat) (b d : Int), bs[i]? = some b → ds[i]? = some d → 0 ≤ d ∧ d < b
  v : n * prodI bs + mv bs ds = N
theorem MixW.step {N n b : Int} {bs ds : List Int} (w : MixW N n bs ds) (hb : 0 < b) : MixW N (n / b) (b :: bs) (n % b :: ds) := by
  refine ⟨congrArg Nat.succ w.l, fun i c d h1 h2 => ?_, ?_⟩
  · cases i with
    | zero => cases h1; cases h2; exact ⟨Int.emod_nonneg _ (by omega), Int.emod_lt_of_pos _ hb⟩
    | succ i => exact w.m i c d h1 h2
  · show n / b * prodI (b :: bs) + (n % b * prodI bs + mv bs ds) = N
    rw [prod_cons, ← w.v]
    have h0 := Int.emod_add_mul_ediv n b
    have e : n / b * (b * prodI bs) = b * (n / b) * prodI bs := by rw [← Int.mul_assoc, Int.mul_comm (n / b) b]
    rw [e, ← Int.add_assoc, ← Int.add_mul, show b * (n / b) + n % b = n by omega]
theorem mixed_run (k : Nat) (n : Int) (bases : List Int) (hn : 0 ≤ n) (hb : ∀ b ∈ bases, 2 ≤ b ∧ b ≤ 100) (hl : bases.length ≤ 1000) :
    ∃ (q : Int) (ds : List Int), callL fns (k + 1) 3 [Dd n, .d (Tp bases)] [] = some (.d (Tp (q :: ds)), []) ∧ 0 ≤ q ∧ q ≤ n ∧ MixW n q bases ds := by
  have hrev : (bases.map PyData.int).reverse.map Vl.d = bases.reverse.map Dd := by rw [← List.map_reverse, List.map_map]; rfl
  obtain ⟨ρ', h', e, q, ds, y, rfl, rfl, hq, hqn, hd, _⟩ := forRun (g := evT (callL fns k) (.nm 3)) (b := exs (callL fns k) mBody)
    (fun i ρ h => ∃ (q : Int) (ds : List Int) (y : Option Vl), ρ = [some (Dd q), some (.d (Tp bases)), some (.d (Tp ds)), y] ∧ h = [] ∧ 0 ≤ q ∧ q ≤ n ∧ MixW n q (bases.reverse.take i).reverse ds ∧ ds.length = i)
    (bases.reverse.map Dd) 0 [some (Dd n), some (.d (Tp bases)), some (.d (Tp [])), none] []
    ⟨n, [], none, rfl, rfl, hn, Int.le_refl _, ⟨rfl, fun i b d h => by simp at h, by simp [prodI, mv]⟩, rfl⟩
    (by
      rintro j x ρ h hx ⟨q, ds, y, rfl, rfl, hq, hqn, w, hlen⟩
      rw [List.getElem?_map] at hx
      obtain ⟨b, hb1, rfl⟩ := Option.map_eq_some_iff.mp hx
      have hb2 := hb b (List.mem_reverse.mp (List.mem_of_getElem? hb1))
      have hj : j < bases.reverse.length := (List.getElem?_eq_some_iff.mp hb1).1
      rw [List.length_reverse] at hj
      refine ⟨_, _, rfl, _, _, .inl (mBody_run (callL fns k) q b _ ds hb2 (by omega)), q / b, q % b :: ds, _, rfl, rfl, Int.ediv_nonneg hq (by omega), Int.le_trans (Int.ediv_le_self _ hq) hqn, ?_, congrArg Nat.succ hlen⟩
      rw [Nat.zero_add] at w
      have := w.step (b := b) (by omega)
      rw [Nat.zero_add, drop_one hb1, List.reverse_append]
      exact this)
  refine ⟨q, ds, fnRun (fn := f_mixed_digits) rfl rfl ?_, hq, hqn, ?_⟩
  · show exs (callL fns k) (.cons (.asg (.nm 2) (.tup .nil)) (.cons (.for_ (.nm 3) (.sq (.rev (.v 1))) mBody) (.cons (.ret (.bin .add (.tup (.cons (.v 0) .nil)) (.v 2))) .nil))) [some (Dd n), some (.d (Tp bases)), none, none] [] = _
    have e1 : ex (callL fns k) (.asg (.nm 2) (.tup .nil)) [some (Dd n), some (.d (Tp bases)), none, none] [] = some (.nx [some (Dd n), some (.d (Tp bases)), some (.d (Tp [])), none], []) := rfl
    have e2 : evI (callL fns k) (.sq (.rev (.v 1))) [some (Dd n), some (.d (Tp bases)), some (.d (Tp [])), none] [] = some (bases.reverse.map Dd, []) := by
      rw [← hrev]; rfl
    refine stSeq e1 (forSeq e2 e (retR (binR (dx := .tuple [.int q]) (dy := Tp ds) rfl rfl rfl rfl ?_)))
    exact b_addT [.int q] (ds.map .int) (by have := hd.l; simp at this ⊢; omega)
  · simp only [List.length_map, List.length_reverse, Nat.zero_add] at hd
    rw [List.take_of_length_le (by rw [List.length_reverse]; exact Nat.le_refl _), List.reverse_reverse] at hd
    exact hd
/-- all products of a row -/
def Sm : List Int → List Int → Int
  | [], _ => 0
  | d :: ds, bs => d * prodI bs + Sm ds (bs.drop 1)
theorem Sm_mv : ∀ (bs ds : List Int), ds.length = bs.length → Sm ds (bs.drop 1) = mv bs ds
  | [], [], _ => rfl
  | b :: bs, d :: ds, h => by
    show d * prodI bs + Sm ds (bs.drop 1) = d * prodI bs + mv bs ds
    rw [Sm_mv bs ds (by simpa using h)]
  | [], _ :: _, h => by cases h
  | _ :: _, [], h => by cases h
theorem Sm_sum : ∀ (ds bs : List Int), ((List.range ds.length).map fun i => ds.getD i 0 * prodI (bs.drop i)).sum = Sm ds bs
  | [], _ => rfl
  | d :: ds, bs => by
    rw [List.length_cons, List.range_succ_eq_map, List.map_cons, List.map_map, List.sum_cons]
    show d * prodI bs + _ = d * prodI bs + Sm ds (bs.drop 1)
    rw [← Sm_sum ds (bs.drop 1)]
    congr 2
    refine List.map_congr_left fun i _ => ?_
    show ds.getD i 0 * prodI (bs.drop (i + 1)) = _
    rw [List.drop_drop, Nat.add_comm]
theorem cut_from (xs : List Int) (i : Nat) (h : i ≤ xs.length) : slD (some (i : Int)) none (Tp xs) = some (Tp (xs.drop i)) := by
  show some (PyData.tuple (cutL (xs.map PyData.int) (some (i : Int)) none)) = _
  unfold cutL
  rw [HT.sIx_nat, HT.sIx_none, List.length_map, Nat.min_eq_left h, List.take_of_length_le (by rw [List.length_drop, List.length_map]; exact Nat.le_refl _), ← List.map_drop]
theorem rng_map (n : Nat) : rngL 0 n = (List.range n).map fun i => Dd (i : Nat) := by
  unfold rngL
  rw [upTo_map, List.map_map]
  refine List.map_congr_left fun i _ => ?_
  show Vl.d (.int (0 + (i : Int))) = _
  rw [Int.zero_add]
theorem r1R {C : Orc} {a : E} {ρ : Env'} {h h1 : Hm} {j : Nat} (e : ev C a ρ h = some (Dd j, h1)) (hj : j ≤ 16777216) : evI C (.r1 a) ρ h = some (rngL 0 j, h1) := by
  show iR1 (ev C a) ρ h = _
  unfold iR1
  rw [e]
  simp only
  rw [if_pos]
  · rw [Int.toNat_natCast]
  · unfold sixty2
    rw [Bool.and_eq_true, decide_eq_true_eq, decide_eq_true_eq]
    omega
/-- a list comprehension of ints over a range -/
theorem lcRng {C : Orc} {own : List Nat} {a : E} {i : I} {t : T} {ρ : Env'} {h h1 : Hm} {n : Nat} (f : Nat → Int) (ei : evI C i ρ h = some (rngL 0 n, h1)) (hn : n ≤ 16777216) (hs : ∀ j < n, ∃ ρ1, evT C t (Dd (j : Nat)) (wipeE ρ own) h1 = some (ρ1, h1) ∧ ev C a ρ1 h1 = some (Dd (f j), h1)) :
    ev C (.fl (.comp own a t i .nop)) ρ h = some (.d (.list (((List.range n).map f).map .int)), h1) := by
  refine flRun (compRun ei (by rw [rng_len]; exact hn) ?_)
  have := compMap (g := evT C t) (e := ev C a) (ρ := wipeE ρ own) (h := h1) (fun w => match w with | .d (.int j) => Dd (f j.toNat) | _ => w) (xs := rngL 0 n) (fun x hx => by
    obtain ⟨j, hj, rfl⟩ := mem_rng hx
    rw [Int.zero_add]
    exact hs j hj)
  show compL (evT C t) cYes (ev C a) (wipeE ρ own) (rngL 0 n) h1 = _
  rw [this, rng_map, List.map_map, List.map_map, List.map_map]
  rfl
theorem isMixed_run (k : Nat) (n q : Int) (bases ds : List Int) (hq : 0 ≤ q) (hqn : q ≤ 100000) (w : MixW n q bases ds) (hb : ∀ b ∈ bases, 2 ≤ b ∧ b ≤ 100) (hl : bases.length ≤ 1000) :
    callL fns (k + 2) 15 [.d (Tp (q :: ds)), Dd n, .d (Tp bases)] [] = some (.d (.bool true), []) := by
  refine fnRun (fn := f__law_is_mixed) rfl rfl ?_
  have hlen := w.l
  have eN : ((q :: ds).map PyData.int).length = bases.length + 1 := by simp [hlen]
  have sN : ∀ (xs : List Int) (j : Nat), xs.length = j → primD .len [Tp xs] = some (.int (j : Nat)) := fun xs j e => by
    show some (PyData.int ((xs.map PyData.int).length : Nat)) = _
    rw [List.length_map, e]
  refine ifNo (h1 := []) (or3 (h2 := []) (h1 := []) (notR (r := true) rfl) (cmpR (h1 := []) (x := Dd (bases.length + 1 : Nat)) (y := Dd (bases.length + 1 : Nat)) (prim1 (x := .d (Tp (q :: ds))) (dx := Tp (q :: ds)) rfl rfl (sN _ _ (by simp [hlen]))) ?_ ?_) (cmpR (h1 := []) (x := .d (.list [])) (y := .d (.list [])) ?_ rfl rfl)) ?_
  · exact addR (i := bases.length) (j := 1) (prim1 (x := .d (Tp bases)) (dx := Tp bases) rfl rfl (sN _ _ rfl)) rfl
  · show some (!((((bases.length + 1 : Nat) : Int)) == ((bases.length + 1 : Nat) : Int))) = _
    simp
  · refine flRun (ds := []) (compRun (sq_map _ 0 _ _ (q :: ds) rfl) (by simp; omega) (compNone fun x hx => ?_))
    obtain ⟨d, hd1, rfl⟩ := List.mem_map.mp hx
    refine ⟨_, rfl, ?_⟩
    have hd0 : 0 ≤ d := by
      rcases List.mem_cons.mp hd1 with rfl | hd1
      · exact hq
      · obtain ⟨i, hi⟩ := List.getElem?_of_mem hd1
        obtain ⟨b, hb1⟩ : ∃ b, bases[i]? = some b := ⟨_, List.getElem?_eq_getElem (by have := (List.getElem?_eq_some_iff.mp hi).1; omega)⟩
        exact (w.m i b d hb1 hi).1
    have h3 : decide (d < 0) = false := decide_eq_false (by omega)
    have er : (wipeE (List.map some [.d (Tp (q :: ds)), Dd n, .d (Tp bases)] ++ List.replicate (f__law_is_mixed.ns - f__law_is_mixed.np) none) [4]).set 4 (some (Dd d)) = [some (.d (Tp (q :: ds))), some (Dd n), some (.d (Tp bases)), none, some (Dd d)] := rfl
    rw [er]
    rw [condOf_or]
    simp only [exs, ex, ev, evs, evT, evI, evF, evAnd, evOr, condOf, partOf, sCons, sNil, sAsg, sPar, sAug, augD, sIf, sRet, sDrop, gNm, gsCons, gsNil, gTp, cBin, cNeg, cTup, cCons, cNil, cVar, cC, cPrim, curs, curS, cur, primD, toDs, toDs_map, toB, ofB, cCmpB, cNot, cAnd, cOr, cIf, cYes, cNoPart, cPart, cFl, cFm, cDisp, cCall, cIx, ixV, ixL, cmpV, cmpD, eqD, ltQ, leI, gtI, isD, inQ, isOf, b_sub, b_add, Option.map, List.map_cons, List.map_nil, List.getElem?_cons_zero, List.getElem?_cons_succ, List.getElem?_nil, List.length_cons, List.length_nil, List.set_cons_zero, List.set_cons_succ, List.set_nil, List.cons_append, List.nil_append, Nat.zero_add, Nat.reduceAdd, okLen1, okLen2, okLen3, okLen4, okLen5, okLen0, ↓reduceIte, if_true, if_false, Bool.false_eq_true, Bool.not_true, Bool.not_false, h3]
  refine ifNo (h1 := []) (cmpR (h1 := []) (x := .d (.list [])) (y := .d (.list [])) ?_ rfl rfl) ?_
  · refine flRun (ds := []) (compRun (r1R (j := bases.length) (prim1 (x := .d (Tp bases)) (dx := Tp bases) rfl rfl (sN _ _ rfl)) (by omega)) (by rw [rng_len]; omega) (compNone fun x hx => ?_))
    obtain ⟨j, hj, rfl⟩ := mem_rng hx
    obtain ⟨b, hb1⟩ : ∃ b, bases[j]? = some b := ⟨_, List.getElem?_eq_getElem hj⟩
    obtain ⟨d, hd1⟩ : ∃ d, ds[j]? = some d := ⟨_, List.getElem?_eq_getElem (by omega)⟩
    obtain ⟨m1, m2⟩ := w.m j b d hb1 hd1
    rw [Int.zero_add]
    refine ⟨_, rfl, cmpR (x := Dd d) (y := Dd b) (h1 := []) (ixR (h1 := []) (x := .d (Tp (q :: ds))) rfl (addR (h1 := []) (i := j) (j := 1) rfl rfl) (atT [] (q :: ds) (by omega) ?_)) (ixR (h1 := []) (x := .d (Tp bases)) (dy := .int j) rfl rfl (atT [] bases (by omega) (by rw [Int.toNat_natCast]; exact hb1))) ?_⟩
    · rw [show ((j : Int) + 1).toNat = j + 1 by omega]
      exact hd1
    · show some (decide (b ≤ d)) = _
      rw [decide_eq_false (by omega)]
  have e1 : ev (callL fns (k + 1)) (.fl (.comp [3] (.bin .mul (.ix (.v 0) (.v 3)) (.callP 14 (.cons (.sl (.v 2) (.v 3) .nop) .nil))) (.nm 3) (.r1 (.prim .len (.cons (.v 0) .nil))) .nop)) [some (.d (Tp (q :: ds))), some (Dd n), some (.d (Tp bases)), none, none] [] = some (.d (.list (((List.range (bases.length + 1)).map fun i => (q :: ds).getD i 0 * prodI (bases.drop i)).map .int)), []) := by
    refine lcRng _ (r1R (j := bases.length + 1) (prim1 (x := .d (Tp (q :: ds))) (dx := Tp (q :: ds)) rfl rfl (sN _ _ (by simp [hlen]))) (by omega)) (by omega) fun j hj => ⟨_, rfl, ?_⟩
    obtain ⟨d, hd1⟩ : ∃ d, (q :: ds)[j]? = some d := ⟨_, List.getElem?_eq_getElem (by simp; omega)⟩
    have hg : (q :: ds).getD j 0 = d := by simp [List.getD, hd1]
    rw [hg]
    have hpb : ∀ x ∈ bases.drop j, x.natAbs < 18446744073709551616 := fun x hx => by have := hb x (List.mem_of_mem_drop hx); omega
    have hdn : d.natAbs < 18446744073709551616 := by
      cases j with
      | zero =>
        have : d = q := by simpa using hd1.symm
        omega
      | succ j =>
        obtain ⟨b, hb1⟩ : ∃ b, bases[j]? = some b := ⟨_, List.getElem?_eq_getElem (by omega)⟩
        have := w.m j b d hb1 (by simpa using hd1)
        have := hb b (List.mem_of_getElem? hb1)
        omega
    refine mulR (h1 := []) (ixR (h1 := []) (x := .d (Tp (q :: ds))) (dy := .int j) rfl rfl (atT [] (q :: ds) (by omega) (by rw [Int.toNat_natCast]; exact hd1))) (callPR (h1 := []) (ws := [.d (Tp (bases.drop j))]) (evs1 ?_) rfl (product_run k (bases.drop j) _ (.inl rfl) hpb)) (.inl hdn)
    show cSl (cVar 2) (cPart (cVar 3)) cNoPart [some (.d (Tp (q :: ds))), some (Dd n), some (.d (Tp bases)), some (Dd j), none] [] = _
    simp only [cSl, cVar, cPart, cNoPart, List.getElem?_cons_zero, List.getElem?_cons_succ, cur, cut_from bases j (by omega)]
  refine retR (ofTB (r := true) (cmpR (x := Dd n) (y := Dd n) (prim1 e1 rfl ?_) rfl ?_))
  · show (intsD _).map (fun ns => PyData.int ns.sum) = _
    rw [intsD_map, show bases.length + 1 = (q :: ds).length by simp [hlen]]
    simp only [Option.map]
    rw [Sm_sum]
    show some (PyData.int (q * prodI bases + Sm ds (bases.drop 1))) = _
    rw [Sm_mv bases ds hlen, w.v]
  · show some (n == n) = _
    simp
end Law

namespace Law
open PySem PySem.Spec L2 MP
def fac : Nat → Int
  | 0 => 1
  | n + 1 => (n + 1 : Nat) * fac n
/-- the value of a factorial row, its digits' bounds -/
def fv : List Int → Int
  | [] => 0
  | d :: ds => d * fac (ds.length + 1) + fv ds
def FB : List Int → Prop
  | [] => True
  | d :: ds => (0 ≤ d ∧ d ≤ ds.length + 1) ∧ FB ds
theorem FB.all : ∀ {ds : List Int}, FB ds → ∀ d ∈ ds, 0 ≤ d ∧ d < ds.length + 1
  | d :: ds, h, x, hx => by
    rw [List.length_cons]
    rcases List.mem_cons.mp hx with rfl | hx
    · have := h.1; omega
    · have := FB.all h.2 x hx; omega
theorem FB.drop : ∀ {ds : List Int}, FB ds → ∀ j, FB (ds.drop j)
  | [], _, j => by simp [FB]
  | d :: ds, h, 0 => h
  | d :: ds, h, j + 1 => FB.drop h.2 j
structure FacW (N n : Int) (ds : List Int) : Prop where
  v : n * fac (ds.length + 1) + fv ds = N
  m : FB ds
  h : ds = [] ∨ n ≠ 0 ∨ ds.headD 0 ≠ 0
def fBody : Ss := (.cons (.asg (.nm 1) (.bin .add (.tup (.cons (.bin .mod (.v 0) (.v 2)) .nil)) (.v 1))) (.cons (.asg (.nm 0) (.bin .fdiv (.v 0) (.v 2))) (.cons (.aug 2 .add (.c (.int 1))) .nil)))
theorem fBody_run (C : Orc) (x b : Int) (ds : List Int) (hb : 2 ≤ b ∧ b ≤ 1000000) (hl : ds.length ≤ 200001) :
    exs C fBody [some (Dd x), some (.d (Tp ds)), some (Dd b)] [] = some (.nx [some (Dd (x / b)), some (.d (Tp (x % b :: ds))), some (Dd (b + 1))], []) := by
  have h1 : ([PyData.int (x % b)] : List PyData).length + (ds.map PyData.int).length ≤ 16777216 := by simp; omega
  have h2 := b_mod x b (by omega)
  have h3 := b_div x b (by omega) (Int.lt_of_le_of_lt hb.2 (by decide))
  simp only [fBody, exs, ex, ev, evs, evT, evI, evF, evAnd, evOr, condOf, partOf, sCons, sNil, sAsg, sPar, sAug, augD, sIf, sRet, sDrop, gNm, gsCons, gsNil, gTp, cBin, cNeg, cTup, cCons, cNil, cVar, cC, cPrim, curs, curS, cur, primD, toDs, toDs_map, toB, ofB, cCmpB, cNot, cAnd, cOr, cIf, cYes, cNoPart, cPart, cFl, cFm, cDisp, cCall, cIx, ixV, ixL, cmpV, cmpD, eqD, ltQ, leI, gtI, isD, inQ, isOf, b_sub, b_add, Option.map, List.map_cons, List.map_nil, List.getElem?_cons_zero, List.getElem?_cons_succ, List.getElem?_nil, List.length_cons, List.length_nil, List.set_cons_zero, List.set_cons_succ, List.set_nil, List.cons_append, List.nil_append, Nat.zero_add, Nat.reduceAdd, okLen1, okLen2, okLen3, okLen4, okLen5, okLen0, ↓reduceIte, if_true, if_false, Bool.false_eq_true, Bool.not_true, Bool.not_false, h2, h3, b_addT _ _ h1]
  rfl
theorem fac_run (k : Nat) (n : Int) (hn : 0 ≤ n ∧ n ≤ 100000) :
    ∃ ds : List Int, callL fns (k + 1) 4 [Dd n] [] = some (.d (Tp ds), []) ∧ FacW n 0 ds ∧ ds.length ≤ 100001 := by
  obtain ⟨ρ', h', e, ds, b, rfl, rfl, hd, hl⟩ := whileRun (c := toB (ev (callL fns k) (.cmp .gt (.v 0) (.c (.int 0))))) (b := exs (callL fns k) fBody)
    (fun m ρ h => ∃ (x : Int) (ds : List Int), ρ = [some (Dd x), some (.d (Tp ds)), some (Dd (ds.length + 2))] ∧ h = [] ∧ m = x.toNat ∧ FacW n x ds ∧ ds.length + x.toNat ≤ 100001 ∧ 0 ≤ x)
    (fun ρ h => ∃ (ds : List Int) (b : Int), ρ = [some (Dd 0), some (.d (Tp ds)), some (Dd b)] ∧ h = [] ∧ FacW n 0 ds ∧ ds.length ≤ 100001)
    (by
      rintro m ρ h ⟨x, ds, rfl, rfl, rfl, w, hl, hx⟩
      refine ⟨decide (0 < x), [], by simp only [exs, ex, ev, evs, evT, evI, evF, evAnd, evOr, condOf, partOf, sCons, sNil, sAsg, sPar, sAug, augD, sIf, sRet, sDrop, gNm, gsCons, gsNil, gTp, cBin, cNeg, cTup, cCons, cNil, cVar, cC, cPrim, curs, curS, cur, primD, toDs, toDs_map, toB, ofB, cCmpB, cNot, cAnd, cOr, cIf, cYes, cNoPart, cPart, cFl, cFm, cDisp, cCall, cIx, ixV, ixL, cmpV, cmpD, eqD, ltQ, leI, gtI, isD, inQ, isOf, b_sub, b_add, Option.map, List.map_cons, List.map_nil, List.getElem?_cons_zero, List.getElem?_cons_succ, List.getElem?_nil, List.length_cons, List.length_nil, List.set_cons_zero, List.set_cons_succ, List.set_nil, List.cons_append, List.nil_append, Nat.zero_add, Nat.reduceAdd, okLen1, okLen2, okLen3, okLen4, okLen5, okLen0, ↓reduceIte, if_true, if_false, Bool.false_eq_true, Bool.not_true, Bool.not_false], ?_⟩
      by_cases h0 : 0 < x
      · refine .inr ⟨by simp [h0], _, _, .inl (fBody_run _ x _ ds (by omega) (by omega)), (x / ((ds.length : Int) + 2)).toNat, ?_, x / ((ds.length : Int) + 2), x % ((ds.length : Int) + 2) :: ds, ?_, rfl, rfl, ⟨?_, ⟨⟨Int.emod_nonneg _ (by omega), ?_⟩, w.m⟩, .inr ?_⟩, ?_, ?_⟩
        all_goals have h1 := Int.emod_nonneg x (show (ds.length : Int) + 2 ≠ 0 by omega)
        all_goals have h2 := Int.emod_lt_of_pos x (show 0 < (ds.length : Int) + 2 by omega)
        all_goals have h3 := Int.emod_add_mul_ediv x ((ds.length : Int) + 2)
        all_goals have h4 : 0 ≤ x / ((ds.length : Int) + 2) := Int.ediv_nonneg hx (by omega)
        all_goals have h5 := Int.mul_le_mul_of_nonneg_right (show 2 ≤ (ds.length : Int) + 2 by omega) h4
        · omega
        · rw [List.length_cons]
          congr 4 <;> omega
        · show x / ((ds.length : Int) + 2) * fac (ds.length + 1 + 1) + (x % ((ds.length : Int) + 2) * fac (ds.length + 1) + fv ds) = n
          rw [← w.v]
          show x / ((ds.length : Int) + 2) * (((ds.length + 1 + 1 : Nat) : Int) * fac (ds.length + 1)) + _ = _
          rw [show (((ds.length + 1 + 1 : Nat) : Int)) = (ds.length : Int) + 2 by omega, ← Int.mul_assoc, Int.mul_comm (x / _), ← Int.add_assoc, ← Int.add_mul, show ((ds.length : Int) + 2) * (x / ((ds.length : Int) + 2)) + x % ((ds.length : Int) + 2) = x by omega]
        · omega
        · by_cases z : x / ((ds.length : Int) + 2) = 0
          · refine .inr ?_
            show x % ((ds.length : Int) + 2) ≠ 0
            intro z2
            rw [z, z2] at h3
            simp at h3
            omega
          · exact .inl z
        · show ds.length + 1 + _ ≤ _; omega
        · exact h4
      · have : x = 0 := by omega
        subst this
        exact .inl ⟨by simp, ds, _, rfl, rfl, w, by omega⟩)
    lots n.toNat [some (Dd n), some (.d (Tp [])), some (Dd (([] : List Int).length + 2))] [] (by unfold lots; omega)
    ⟨n, [], rfl, rfl, rfl, ⟨by simp [fac, fv], trivial, .inl rfl⟩, by simp; omega, hn.1⟩
  refine ⟨ds, fnRun (fn := f_by_factorials) rfl rfl ?_, hd, hl⟩
  show exs (callL fns k) (.cons (.asg (.nm 1) (.tup .nil)) (.cons (.asg (.nm 2) (.c (.int 2))) (.cons (.whl (.cmp .gt (.v 0) (.c (.int 0))) fBody) (.cons (.ret (.v 1)) .nil)))) [some (Dd n), none, none] [] = _
  have e1 : ex (callL fns k) (.asg (.nm 1) (.tup .nil)) [some (Dd n), none, none] [] = some (.nx [some (Dd n), some (.d (Tp [])), none], []) := rfl
  have e2 : ex (callL fns k) (.asg (.nm 2) (.c (.int 2))) [some (Dd n), some (.d (Tp [])), none] [] = some (.nx [some (Dd n), some (.d (Tp [])), some (Dd (([] : List Int).length + 2))], []) := rfl
  exact stSeq e1 (stSeq e2 (whlSeq e rfl))
theorem prod_fac : ∀ j : Nat, prodI ((List.range j).map fun (i : Nat) => 1 + (i : Int)) = fac j
  | 0 => rfl
  | j + 1 => by
    rw [List.range_succ, List.map_append]
    unfold prodI
    rw [List.foldl_append]
    show prodI ((List.range j).map fun (i : Nat) => 1 + (i : Int)) * (1 + (j : Int)) = ((j + 1 : Nat) : Int) * fac j
    rw [prod_fac j, Int.mul_comm]
    congr 1
    omega
theorem isFac_run (k : Nat) (n : Int) (ds : List Int) (w : FacW n 0 ds) (hl : ds.length ≤ 100001) :
    callL fns (k + 2) 16 [.d (Tp ds), Dd n] [] = some (.d (.bool true), []) := by
  have sN : primD .len [Tp ds] = some (.int (ds.length : Nat)) := by
    show some (PyData.int ((ds.map PyData.int).length : Nat)) = _
    rw [List.length_map]
  have hh : ds = [] ∨ ds.headD 0 ≠ 0 := by
    rcases w.h with h | h | h
    · exact .inl h
    · exact absurd rfl h
    · exact .inr h
  obtain ⟨ρ', h', e, t, y, z, rfl, rfl, ht⟩ := forRun (g := evT (callL fns (k + 1)) (.nm 3)) (b := exs (callL fns (k + 1)) (.cons (.asg (.nm 4) (.bin .sub (.prim .len (.cons (.v 0) .nil)) (.v 3))) (.cons (.ife (.cmp .gt (.ix (.v 0) (.v 3)) (.v 4)) (.cons (.ret (.c (.bool false))) .nil) .nil) (.cons (.aug 2 .add (.bin .mul (.ix (.v 0) (.v 3)) (.callP 14 (.cons (.prim .lrange2 (.cons (.c (.int 1)) (.cons (.bin .add (.v 4) (.c (.int 1))) .nil))) .nil)))) .nil))))
    (fun i ρ h => ∃ (t : Int) (y z : Option Vl), ρ = [some (.d (Tp ds)), some (Dd n), some (Dd t), y, z] ∧ h = [] ∧ t + fv (ds.drop i) = n)
    (rngL 0 ds.length) 0 [some (.d (Tp ds)), some (Dd n), some (Dd 0), none, none] []
    ⟨0, none, none, rfl, rfl, by have := w.v; simpa using this⟩
    (by
      rintro j x ρ h hx ⟨t, y, z, rfl, rfl, ht⟩
      obtain ⟨hj, rfl⟩ := rng_get hx
      rw [Nat.zero_add] at ht ⊢
      rw [Int.zero_add]
      obtain ⟨d, hd1⟩ : ∃ d, ds[j]? = some d := ⟨_, List.getElem?_eq_getElem hj⟩
      have hdr := drop_cons hd1
      have hb := (w.m.drop j)
      rw [hdr] at hb ht
      have hb1 := hb.1
      rw [List.length_drop] at hb1
      have hla : (ds.drop (j + 1)).length + 1 = ds.length - j := by rw [List.length_drop]; omega
      have e4 : ((ds.length : Int) - (j : Int)) = ((ds.length - j : Nat) : Int) := by omega
      refine ⟨_, _, rfl, [some (.d (Tp ds)), some (Dd n), some (Dd (t + d * fac (ds.length - j))), some (Dd j), some (Dd ((ds.length : Int) - (j : Int)))], [], .inl ?_, _, _, _, rfl, rfl, ?_⟩
      · refine setR (h1 := []) (x := Dd ((ds.length : Int) - (j : Int))) (subR (h1 := []) (prim1 (x := .d (Tp ds)) (dx := Tp ds) rfl rfl sN) rfl) ?_
        refine ifNo (h1 := []) (cmpR (h1 := []) (x := Dd d) (y := Dd ((ds.length : Int) - (j : Int))) (ixR (h1 := []) (x := .d (Tp ds)) (dy := .int j) rfl rfl (atT [] ds (by omega) (by rw [Int.toNat_natCast]; exact hd1))) rfl ?_) ?_
        · show some (decide ((ds.length : Int) - (j : Int) < d)) = _
          rw [decide_eq_false (by omega)]
        · have em : ev (callL fns (k + 1)) (.bin .mul (.ix (.v 0) (.v 3)) (.callP 14 (.cons (.prim .lrange2 (.cons (.c (.int 1)) (.cons (.bin .add (.v 4) (.c (.int 1))) .nil))) .nil))) [some (.d (Tp ds)), some (Dd n), some (Dd t), some (Dd j), some (Dd ((ds.length : Int) - (j : Int)))] [] = some (Dd (d * fac (ds.length - j)), []) := by
            refine mulR (h1 := []) (ixR (h1 := []) (x := .d (Tp ds)) (dy := .int j) rfl rfl (atT [] ds (by omega) (by rw [Int.toNat_natCast]; exact hd1))) (callPR (h1 := []) (h' := []) (ws := [.d (.list (((List.range (ds.length - j)).map fun (i : Nat) => 1 + (i : Int)).map .int))]) (evs1 (prim2 (h1 := []) (x := Dd 1) (y := Dd (((ds.length : Int) - (j : Int)) + 1)) (dx := .int 1) (dy := .int (((ds.length : Int) - (j : Int)) + 1)) rfl rfl rfl rfl ?_)) rfl ?_) (.inl (by omega))
            · show (if (sixty2 1 && (sixty2 (((ds.length : Int) - (j : Int)) + 1) && okLen ((((ds.length : Int) - (j : Int)) + 1) - 1).toNat)) = true then _ else _) = _
              rw [if_pos]
              · rw [show ((((ds.length : Int) - (j : Int)) + 1) - 1).toNat = ds.length - j by omega, upTo_map, List.map_map]
                rfl
              · rw [Bool.and_eq_true, Bool.and_eq_true]
                refine ⟨rfl, ?_, okLen_of (by omega)⟩
                unfold sixty2
                rw [Bool.and_eq_true, decide_eq_true_eq, decide_eq_true_eq]
                omega
            · rw [← prod_fac (ds.length - j)]
              refine product_run k _ _ (.inr rfl) fun x hx => ?_
              obtain ⟨i, hi, rfl⟩ := List.mem_map.mp hx
              have := List.mem_range.mp hi
              omega
          refine seqRun (ρ1 := [some (.d (Tp ds)), some (Dd n), some (Dd (t + d * fac (ds.length - j))), some (Dd j), some (Dd ((ds.length : Int) - (j : Int)))]) (h1 := []) ?_ rfl
          exact augR (u := t) rfl em
      · rw [← ht]
        show t + d * fac (ds.length - j) + fv (ds.drop (j + 1)) = t + (d * fac ((ds.drop (j + 1)).length + 1) + fv (ds.drop (j + 1)))
        rw [hla]
        omega)
  refine fnRun (fn := f__law_is_factorial) rfl rfl ?_
  refine ifNo (h1 := []) (notR (r := true) (toBR (callPR (h1 := []) (ws := [.d (Tp ds), Dd 0, Dd (ds.length + 1 : Nat)]) (evs3 (h1 := []) (h2 := []) rfl rfl (addR (h1 := []) (i := ds.length) (j := 1) (prim1 (x := .d (Tp ds)) (dx := Tp ds) rfl rfl sN) rfl)) rfl (areDigits_run k 0 _ ds (fun d hd => by have := w.m.all d hd; omega) hh (by omega))))) ?_
  refine setR (h1 := []) (x := Dd 0) rfl (forSeq (r1R (j := ds.length) (prim1 (x := .d (Tp ds)) (dx := Tp ds) rfl rfl sN) (by omega)) e (retR (ofTB (r := true) (cmpR (h1 := []) (x := Dd t) (y := Dd n) rfl rfl ?_))))
  show some (t == n) = _
  rw [Nat.zero_add, rng_len, List.drop_length] at ht
  simp only [fv, Int.add_zero] at ht
  subst ht
  simp
end Law

namespace Law
open PySem PySem.Spec L2 MP
def nbE : E := .ix (.dic [.inr "plain", .inr "balanced", .inr "factorials"] (.cons (.v 2) (.cons (.c (.int 3)) (.cons (.bin .add (.bin .sub (.v 4) (.v 5)) (.c (.int 1))) .nil)))) (.v 0)
def nbBody : Ss := (.cons (.asg (.nm 7) nbE) (.cons (.asg (.nm 3) (.bin .add (.bin .mul (.v 3) (.v 7)) (.ix (.v 1) (.v 5)))) .nil))
def nbK (base : PyData) (z : Int) : List (Key × Vl) := [.inr "plain", .inr "balanced", .inr "factorials"].zip [.d base, Dd 3, Dd z]
theorem last_at (h : Hm) (o : O) : (h ++ [o])[h.length]? = some o := by
  rw [List.getElem?_append_right (Nat.le_refl _), Nat.sub_self]
  rfl
theorem nb_run (k : Nat) (kind : Str) (base : PyData) (ds : List Int) (by_ W R : Nat → Int) (N : Int) (hk : ∀ h, cmpV .eq h (.d (.str kind)) (.d (.str "two")) = some false)
    (hl : ds.length ≤ 16777216) (hlook : ∀ j : Nat, j < ds.length → look (nbK base ((ds.length : Int) - (j : Int) + 1)) (.inr kind) = some (Dd (by_ j))) (hby : ∀ j, j < ds.length → (by_ j).natAbs < 18446744073709551616)
    (hW : ∀ j, j < ds.length → W j = by_ j * W (j + 1)) (hR : ∀ (j : Nat) (d : Int), ds[j]? = some d → R j = d * W (j + 1) + R (j + 1)) (hW1 : W ds.length = 1) (hR0 : R ds.length = 0) (hN : R 0 = N) :
    ∃ h', callL fns (k + 1) 7 [.d (.str kind), .d (Tp ds), .d base] [] = some (Dd N, h') := by
  have sN : primD .len [Tp ds] = some (.int (ds.length : Nat)) := by
    show some (PyData.int ((ds.map PyData.int).length : Nat)) = _
    rw [List.length_map]
  obtain ⟨ρ', h', e, f, y, z, rfl, hf⟩ := forRun (g := evT (callL fns k) (.nm 5)) (b := exs (callL fns k) nbBody)
    (fun i ρ h => ∃ (f : Int) (y z : Option Vl), ρ = [some (.d (.str kind)), some (.d (Tp ds)), some (.d base), some (Dd f), some (Dd ds.length), y, none, z, none] ∧ f * W i + R i = N)
    (rngL 0 ds.length) 0 [some (.d (.str kind)), some (.d (Tp ds)), some (.d base), some (Dd 0), some (Dd ds.length), none, none, none, none] []
    ⟨0, none, none, rfl, by rw [Int.zero_mul, Int.zero_add]; exact hN⟩
    (by
      rintro j x ρ h hx ⟨f, y, z, rfl, hf⟩
      obtain ⟨hj, rfl⟩ := rng_get hx
      rw [Nat.zero_add] at hf ⊢
      rw [Int.zero_add]
      obtain ⟨d, hd1⟩ : ∃ d, ds[j]? = some d := ⟨_, List.getElem?_eq_getElem hj⟩
      refine ⟨_, _, rfl, [some (.d (.str kind)), some (.d (Tp ds)), some (.d base), some (Dd (f * by_ j + d)), some (Dd ds.length), some (Dd j), none, some (Dd (by_ j)), none], h ++ [.dic (nbK base ((ds.length : Int) - (j : Int) + 1))], .inl ?_, _, _, _, rfl, ?_⟩
      · have e1 : ev (callL fns k) nbE [some (.d (.str kind)), some (.d (Tp ds)), some (.d base), some (Dd f), some (Dd ds.length), some (Dd j), none, z, none] h = some (Dd (by_ j), h ++ [.dic (nbK base ((ds.length : Int) - (j : Int) + 1))]) := by
          refine ixR (h1 := h ++ [.dic (nbK base ((ds.length : Int) - (j : Int) + 1))]) (x := .r h.length) (dy := .str kind) rfl rfl ?_
          show (match (h ++ [O.dic (nbK base ((ds.length : Int) - (j : Int) + 1))])[h.length]? with
            | some (.lst xs) => _
            | some (.dic kvs) => _
            | some (.dit kvs) => _
            | _ => _) = _
          rw [last_at]
          exact hlook j hj
        show exs (callL fns k) nbBody [some (.d (.str kind)), some (.d (Tp ds)), some (.d base), some (Dd f), some (Dd ds.length), some (Dd j), none, z, none] h = _
        refine setR (h1 := h ++ [.dic (nbK base ((ds.length : Int) - (j : Int) + 1))]) e1 (setR (h1 := h ++ [.dic (nbK base ((ds.length : Int) - (j : Int) + 1))]) (x := Dd (f * by_ j + d)) (addR (h1 := h ++ [.dic (nbK base ((ds.length : Int) - (j : Int) + 1))]) (mulR (h1 := h ++ [.dic (nbK base ((ds.length : Int) - (j : Int) + 1))]) (i := f) (j := by_ j) rfl rfl (.inr (hby j hj))) (ixR (h1 := h ++ [.dic (nbK base ((ds.length : Int) - (j : Int) + 1))]) (x := .d (Tp ds)) (dy := .int j) rfl rfl (atT _ ds (by omega) (by rw [Int.toNat_natCast]; exact hd1)))) rfl)
      · rw [← hf, hW j hj, hR j d hd1, Int.add_mul, Int.mul_assoc, Int.add_assoc])
  rw [Nat.zero_add, rng_len, hW1, hR0, Int.mul_one, Int.add_zero] at hf
  subst hf
  refine ⟨h', fnRun (fn := f_number_by) rfl rfl ?_⟩
  refine ifNo (h1 := []) (cmpR (h1 := []) (x := .d (.str kind)) (y := .d (.str "two")) rfl rfl (hk [])) (setR (h1 := []) (x := Dd 0) rfl (setR (h1 := []) (x := Dd ds.length) (prim1 (x := .d (Tp ds)) (dx := Tp ds) rfl rfl sN) (forSeq (r1R (j := ds.length) rfl hl) e (retR rfl))))
theorem nb_plain (k : Nat) (b n lo hi : Int) (ds : List Int) (hd : Digs b lo hi n ds) (hb : b.natAbs ≤ 1000) (hl : ds.length ≤ 200001) :
    ∃ h', callL fns (k + 1) 7 [.d (.str "plain"), .d (Tp ds), Dd b] [] = some (Dd n, h') := by
  refine nb_run k "plain" (.int b) ds (fun _ => b) (fun j => b ^ (ds.length - j)) (fun j => val b (ds.drop j)) n (fun h => by show eqD (.str "plain") (.str "two") = some false; decide +kernel) (by omega) (fun j _ => rfl) (fun _ _ => by omega) (fun j hj => ?_) (fun j d h => ?_) (by simp) (by simp [val]) (by simpa using hd.v)
  · show b ^ (ds.length - j) = b * b ^ (ds.length - (j + 1))
    rw [show ds.length - j = ds.length - (j + 1) + 1 by omega, Int.pow_succ, Int.mul_comm]
  · show val b (ds.drop j) = d * b ^ (ds.length - (j + 1)) + val b (ds.drop (j + 1))
    rw [drop_cons h]
    show d * b ^ (ds.drop (j + 1)).length + _ = _
    rw [List.length_drop]
theorem nb_bal (k : Nat) (n lo hi : Int) (ds : List Int) (hd : Digs 3 lo hi n ds) (hl : ds.length ≤ 200001) :
    ∃ h', callL fns (k + 1) 7 [.d (.str "balanced"), .d (Tp ds), .d .none] [] = some (Dd n, h') := by
  refine nb_run k "balanced" .none ds (fun _ => 3) (fun j => 3 ^ (ds.length - j)) (fun j => val 3 (ds.drop j)) n (fun h => by show eqD (.str "balanced") (.str "two") = some false; decide +kernel) (by omega) (fun j _ => rfl) (fun _ _ => by omega) (fun j hj => ?_) (fun j d h => ?_) (by simp) (by simp [val]) (by simpa using hd.v)
  · show (3 : Int) ^ (ds.length - j) = 3 * 3 ^ (ds.length - (j + 1))
    rw [show ds.length - j = ds.length - (j + 1) + 1 by omega, Int.pow_succ, Int.mul_comm]
  · show val 3 (ds.drop j) = d * 3 ^ (ds.length - (j + 1)) + val 3 (ds.drop (j + 1))
    rw [drop_cons h]
    show d * 3 ^ (ds.drop (j + 1)).length + _ = _
    rw [List.length_drop]
theorem nb_fac (k : Nat) (n : Int) (ds : List Int) (w : FacW n 0 ds) (hl : ds.length ≤ 100001) :
    ∃ h', callL fns (k + 1) 7 [.d (.str "factorials"), .d (Tp ds), .d .none] [] = some (Dd n, h') := by
  refine nb_run k "factorials" .none ds (fun j => (ds.length : Int) - (j : Int) + 1) (fun j => fac (ds.length - j + 1)) (fun j => fv (ds.drop j)) n (fun h => by show eqD (.str "factorials") (.str "two") = some false; decide +kernel) (by omega) (fun j _ => rfl) (fun j hj => by omega) (fun j hj => ?_) (fun j d h => ?_) (by simp [fac]) (by simp [fv]) (by have := w.v; simpa using this)
  · show ((ds.length - j + 1 : Nat) : Int) * fac (ds.length - j) = ((ds.length : Int) - (j : Int) + 1) * fac (ds.length - (j + 1) + 1)
    rw [show ds.length - (j + 1) + 1 = ds.length - j by omega, show ((ds.length - j + 1 : Nat) : Int) = (ds.length : Int) - (j : Int) + 1 by omega]
  · have hj := (List.getElem?_eq_some_iff.mp h).1
    show fv (ds.drop j) = d * fac (ds.length - (j + 1) + 1) + fv (ds.drop (j + 1))
    rw [drop_cons h]
    show d * fac ((ds.drop (j + 1)).length + 1) + _ = _
    rw [List.length_drop]
end Law

namespace Law
open PySem PySem.Spec L2 MP
def fb : Nat → Int
  | 0 => 1
  | 1 => 2
  | n + 2 => fb (n + 1) + fb n
theorem fb_pos : ∀ n, 1 ≤ fb n
  | 0 => by decide
  | 1 => by decide
  | n + 2 => by
    have h1 := fb_pos (n + 1)
    have h2 := fb_pos n
    show 1 ≤ fb (n + 1) + fb n
    omega
def fbs (L : Nat) : List Vl := (List.range L).map fun i => Dd (fb i)
theorem fbs_len (L : Nat) : (fbs L).length = L := by simp [fbs]
theorem fbs_get {L i : Nat} (h : i < L) : (fbs L)[i]? = some (Dd (fb i)) := by
  unfold fbs
  rw [List.getElem?_map, List.getElem?_range h]
  rfl
theorem fbs_succ (L : Nat) : fbs (L + 1) = fbs L ++ [Dd (fb L)] := by
  unfold fbs
  rw [List.range_succ, List.map_append]
  rfl
theorem atI_neg {α : Type} {xs : List α} {j : Nat} (h1 : 1 ≤ j) (h2 : j ≤ xs.length) : atI xs (-(j : Int)) = xs[xs.length - j]? := by
  unfold atI ixN
  rw [if_neg (by omega), if_pos (by omega)]
  show xs[(-(j : Int) + (xs.length : Int)).toNat]? = _
  congr 1
  omega
theorem fbs_neg {L j : Nat} (h1 : 1 ≤ j) (h2 : j ≤ L) (h : Hm) (n : Nat) (hn : h[n]? = some (.lst (fbs L))) (i : Int) (hi : i = -(j : Int)) : ixV h (.r n) (.int i) = some (Dd (fb (L - j))) := by
  subst hi
  unfold ixV
  simp only [hn]
  show atI (fbs L) _ = _
  rw [atI_neg h1 (by rw [fbs_len]; exact h2), fbs_len, fbs_get (by omega)]
theorem fbs_at {L : Nat} (h : Hm) (n : Nat) (hn : h[n]? = some (.lst (fbs L))) (i : Int) (h0 : 0 ≤ i) (h1 : i < L) : ixV h (.r n) (.int i) = some (Dd (fb i.toNat)) := by
  unfold ixV
  simp only [hn]
  show atI (fbs L) _ = _
  rw [atI_nat h0 (by rw [fbs_len]; exact h1), fbs_get (by omega)]
def tE1 : E := .ix (.v 1) (.neg (.c (.int 1)))
theorem appR {C : Orc} {a b : E} {ρ : Env'} {h h1 : Hm} {n : Nat} {xs : List Vl} {w : Vl} (e1 : ev C a ρ h = some (.r n, h)) (e2 : ev C b ρ h = some (w, h1)) (hl : isLst h n = true) (hn : h1[n]? = some (.lst xs)) (hz : xs.length + 1 ≤ 16777216) : ex C (.app a b) ρ h = some (.nx ρ, h1.set n (.lst (xs ++ [w]))) := by
  show sApp (ev C a) (ev C b) ρ h = _
  unfold sApp
  rw [e1]
  simp only
  rw [if_pos hl, e2]
  simp only
  rw [hn]
  simp only
  rw [if_pos (okLen_of hz)]
theorem fb_fall {n : Nat} (h : 1 ≤ n) : fb (n - 1) + fb (n - 1 - 1) = fb (n - 1 + 1) ∨ n = 1 := by
  by_cases h1 : n = 1
  · exact .inr h1
  · refine .inl ?_
    obtain ⟨m, rfl⟩ : ∃ m, n = m + 2 := ⟨n - 2, by omega⟩
    rfl
theorem two_run (k : Nat) (most : Int) (hm : most < 46368) : ∃ L : Nat, 2 ≤ L ∧ L ≤ 23 ∧ most < fb (L - 1) ∧ callL fns (k + 1) 5 [Dd most] [] = some (.r 0, [.lst (fbs L)]) := by
  obtain ⟨ρ', h', e, L, rfl, rfl, h1, h2, h3⟩ := whileRun (c := toB (ev (callL fns k) (.cmp .le tE1 (.v 0)))) (b := exs (callL fns k) (.cons (.app (.v 1) (.bin .add (.ix (.v 1) (.neg (.c (.int 1)))) (.ix (.v 1) (.neg (.c (.int 2)))))) .nil))
    (fun m ρ h => ∃ L : Nat, ρ = [some (Dd most), some (.r 0)] ∧ h = [.lst (fbs L)] ∧ 2 ≤ L ∧ L ≤ 23 ∧ m = 23 - L)
    (fun ρ h => ∃ L : Nat, ρ = [some (Dd most), some (.r 0)] ∧ h = [.lst (fbs L)] ∧ 2 ≤ L ∧ L ≤ 23 ∧ most < fb (L - 1))
    (by
      rintro m ρ h ⟨L, rfl, rfl, h1, h2, rfl⟩
      refine ⟨decide (fb (L - 1) ≤ most), [.lst (fbs L)], cmpR (h1 := [.lst (fbs L)]) (x := Dd (fb (L - 1))) (y := Dd most) (ixR (h1 := [.lst (fbs L)]) (x := .r 0) (dy := .int (-1)) rfl rfl (fbs_neg (j := 1) (Nat.le_refl _) (by omega) _ 0 rfl _ rfl)) rfl rfl, ?_⟩
      by_cases hc : fb (L - 1) ≤ most
      · refine .inr ⟨by simp [hc], [some (Dd most), some (.r 0)], [.lst (fbs (L + 1))], .inl ?_, 23 - (L + 1), ?_, L + 1, rfl, rfl, by omega, ?_, rfl⟩
        · have e1 : ev (callL fns k) (.bin .add (.ix (.v 1) (.neg (.c (.int 1)))) (.ix (.v 1) (.neg (.c (.int 2))))) [some (Dd most), some (.r 0)] [.lst (fbs L)] = some (Dd (fb (L - 1) + fb (L - 2)), [.lst (fbs L)]) :=
            addR (h1 := [.lst (fbs L)]) (ixR (h1 := [.lst (fbs L)]) (x := .r 0) (dy := .int (-1)) rfl rfl (fbs_neg (j := 1) (Nat.le_refl _) (by omega) _ 0 rfl _ rfl)) (ixR (h1 := [.lst (fbs L)]) (x := .r 0) (dy := .int (-2)) rfl rfl (fbs_neg (j := 2) (by omega) (by omega) _ 0 rfl _ rfl))
          have e2 : fb (L - 1) + fb (L - 2) = fb L := by
            obtain ⟨m, rfl⟩ : ∃ m, L = m + 2 := ⟨L - 2, by omega⟩
            rfl
          rw [e2] at e1
          rw [fbs_succ]
          exact seqRun (appR (xs := fbs L) rfl e1 rfl rfl (by rw [fbs_len]; omega)) rfl
        · by_cases h22 : L = 23
          · subst h22
            exact absurd hc (by have : fb 22 = 46368 := by decide +kernel
                                show ¬ fb 22 ≤ most
                                omega)
          · omega
        · by_cases h22 : L = 23
          · subst h22
            exact absurd hc (by have : fb 22 = 46368 := by decide +kernel
                                show ¬ fb 22 ≤ most
                                omega)
          · omega
      · exact .inl ⟨by simp [hc], L, rfl, rfl, h1, h2, by omega⟩)
    lots 21 [some (Dd most), some (.r 0)] [.lst (fbs 2)] (by unfold lots; omega) ⟨2, rfl, rfl, by omega, by omega, rfl⟩
  refine ⟨L, h1, h2, h3, fnRun (fn := f_two_ahead) rfl rfl ?_⟩
  exact setR (h1 := [.lst (fbs 2)]) (x := .r 0) rfl (whlSeq e (retR rfl))
end Law

namespace Law
open PySem PySem.Spec L2 MP
def fsum : List Int → Int
  | [] => 0
  | p :: ps => fb (p - 2).toNat + fsum ps
/-- places: apart, bounded -/
structure Two (n : Int) (hi : Int) (ps : List Int) : Prop where
  v : fsum ps = n
  b : ∀ p ∈ ps, 2 ≤ p ∧ p ≤ hi
  g : ps.Pairwise fun a b => a + 2 ≤ b
theorem stepTo_neg (L : Nat) : ∀ (n : Nat) (lo : Int) (j : Nat) (x : Vl), ((stepTo lo (-1) n).map Vl.d)[j]? = some x → j < n ∧ x = Dd (lo - j) := fun n lo j x h => by
  obtain ⟨d, h1, rfl⟩ := map_get h
  obtain ⟨h2, rfl⟩ := stepTo_get (-1) n lo j d h1
  refine ⟨h2, ?_⟩
  congr 2
  omega
structure Zk (L : Nat) (N r : Int) (up : List Int) (kk : Nat) : Prop where
  v : r + fsum up = N
  r0 : 0 ≤ r
  r1 : r < fb kk
  lo : ∀ b ∈ up, (kk : Int) + 2 ≤ b
  hi : ∀ b ∈ up, b ≤ L + 1
  g : up.Pairwise fun a b => a + 2 ≤ b
  x : r < fb (kk - 1) ∨ ∀ b ∈ up, (kk : Int) + 3 ≤ b
theorem Zk.no {L : Nat} {N r : Int} {up : List Int} {kk : Nat} (z : Zk L N r up kk) (hk : 1 ≤ kk) (h : r < fb (kk - 1)) : Zk L N r up (kk - 1) :=
  ⟨z.v, z.r0, h, fun b hb => by have := z.lo b hb; omega, z.hi, z.g, .inr fun b hb => by have := z.lo b hb; omega⟩
theorem Zk.yes {L : Nat} {N r : Int} {up : List Int} {kk : Nat} (z : Zk L N r up kk) (hk : 1 ≤ kk) (hL : kk ≤ L) (h : fb (kk - 1) ≤ r) : Zk L N (r - fb (kk - 1)) (((kk : Int) + 1) :: up) (kk - 1) := by
  have hx : ∀ b ∈ up, (kk : Int) + 3 ≤ b := by
    rcases z.x with q | q
    · omega
    · exact q
  have e : ((kk : Int) + 1 - 2).toNat = kk - 1 := by omega
  have hr : r - fb (kk - 1) < fb (kk - 1 - 1) ∧ r - fb (kk - 1) < fb (kk - 1) := by
    have h1 := z.r1
    by_cases h2 : kk = 1
    · subst h2
      have e1 : fb 1 = 2 := rfl
      have e2 : fb (1 - 1) = 1 := rfl
      have e3 : fb (1 - 1 - 1) = 1 := rfl
      omega
    · obtain ⟨m, rfl⟩ : ∃ m, kk = m + 2 := ⟨kk - 2, by omega⟩
      have e1 : fb (m + 2) = fb (m + 1) + fb m := rfl
      have e2 : m + 2 - 1 = m + 1 := rfl
      have e3 : m + 1 - 1 = m := rfl
      rw [e2, e3]
      have h3 : fb m ≤ fb (m + 1) := by
        cases m with
        | zero => decide
        | succ m =>
          have : fb (m + 1 + 1) = fb (m + 1) + fb m := rfl
          have := fb_pos m
          omega
      rw [e2] at h
      omega
  refine ⟨?_, by omega, hr.2, fun b hb => ?_, fun b hb => ?_, ?_, .inl hr.1⟩
  · show r - fb (kk - 1) + (fb ((kk : Int) + 1 - 2).toNat + fsum up) = N
    rw [e]
    have := z.v
    omega
  · rcases List.mem_cons.mp hb with rfl | hb
    · omega
    · have := z.lo b hb; omega
  · rcases List.mem_cons.mp hb with rfl | hb
    · omega
    · exact z.hi b hb
  · rw [List.pairwise_cons]
    exact ⟨fun b hb => by have := hx b hb; omega, z.g⟩
theorem r3down {C : Orc} {a b c : E} {ρ : Env'} {h h1 h2 h3 : Hm} {n : Nat} (e1 : ev C a ρ h = some (Dd ((n : Int) - 1), h1)) (e2 : ev C b ρ h1 = some (Dd (-1), h2)) (e3 : ev C c ρ h2 = some (Dd (-1), h3)) (hn : n ≤ 1000) : evI C (.r3 a b c) ρ h = some ((stepTo ((n : Int) - 1) (-1) n).map Vl.d, h3) := by
  show iR3 (ev C a) (ev C b) (ev C c) ρ h = _
  unfold iR3
  rw [e1]
  simp only
  rw [e2]
  simp only
  rw [e3]
  simp only
  rw [if_pos]
  · rw [PySem.W.rangeSize_downNat]
    congr 4
    omega
  · rw [Bool.and_eq_true, Bool.and_eq_true]
    exact ⟨by decide, by decide, PySem.W.small_down (by omega) (by omega) (by omega) (by omega)⟩
theorem byTwo_run (k : Nat) (n : Int) (hn : 0 ≤ n ∧ n < 46368) : ∃ (ps : List Int) (h' : Hm), callL fns (k + 2) 6 [Dd n] [] = some (.d (Tp ps), h') ∧ Two n 24 ps := by
  obtain ⟨L, h1, h2, h3, e0⟩ := two_run k n hn.2
  have hb : exs (callL fns (k + 1)) (.cons (.ife (.cmp .le (.ix (.v 1) (.v 3)) (.v 0)) (.cons (.app (.v 2) (.bin .add (.v 3) (.c (.int 2)))) (.cons (.aug 0 .sub (.ix (.v 1) (.v 3))) .nil)) .nil) .nil) = exs (callL fns (k + 1)) (.cons (.ife (.cmp .le (.ix (.v 1) (.v 3)) (.v 0)) (.cons (.app (.v 2) (.bin .add (.v 3) (.c (.int 2)))) (.cons (.aug 0 .sub (.ix (.v 1) (.v 3))) .nil)) .nil) .nil) := rfl
  obtain ⟨ρ', h', e, r, up, y, rfl, rfl, hz⟩ := forRun (g := evT (callL fns (k + 1)) (.nm 3)) (b := exs (callL fns (k + 1)) (.cons (.ife (.cmp .le (.ix (.v 1) (.v 3)) (.v 0)) (.cons (.app (.v 2) (.bin .add (.v 3) (.c (.int 2)))) (.cons (.aug 0 .sub (.ix (.v 1) (.v 3))) .nil)) .nil) .nil))
    (fun i ρ h => ∃ (r : Int) (up : List Int) (y : Option Vl), ρ = [some (Dd r), some (.r 0), some (.r 1), y] ∧ h = [.lst (fbs L), .lst (up.reverse.map Dd)] ∧ Zk L n r up (L - i) ∧ up.length ≤ i)
    ((stepTo ((L : Int) - 1) (-1) L).map Vl.d) 0 [some (Dd n), some (.r 0), some (.r 1), none] [.lst (fbs L), .lst []]
    ⟨n, [], none, rfl, rfl, ⟨⟨by simp [fsum], hn.1, by
      have : fb (L - 1) ≤ fb L := by
        obtain ⟨m, rfl⟩ : ∃ m, L = m + 2 := ⟨L - 2, by omega⟩
        have e1 : fb (m + 2) = fb (m + 1) + fb m := rfl
        have := fb_pos m
        show fb (m + 1) ≤ _
        omega
      show n < fb L
      omega, fun _ h => absurd h (by simp), fun _ h => absurd h (by simp), List.Pairwise.nil, .inr fun _ h => absurd h (by simp)⟩, Nat.le_refl _⟩⟩
    (by
      rintro j x ρ h hx ⟨r, up, y, rfl, rfl, z, hul⟩
      obtain ⟨hj, rfl⟩ := stepTo_neg L _ _ _ _ hx
      rw [Nat.zero_add] at z ⊢
      have ei : ∀ (rr : Int) (us : List Vl), ev (callL fns (k + 1)) (.ix (.v 1) (.v 3)) [some (Dd rr), some (.r 0), some (.r 1), some (Dd ((L : Int) - 1 - j))] [.lst (fbs L), .lst us] = some (Dd (fb (L - j - 1)), [.lst (fbs L), .lst us]) := fun rr us => by
        refine ixR (h1 := [.lst (fbs L), .lst us]) (x := .r 0) (dy := .int ((L : Int) - 1 - j)) rfl rfl ?_
        rw [fbs_at _ 0 rfl _ (by omega) (by omega)]
        congr 4
        omega
      have et : toB (ev (callL fns (k + 1)) (.cmp .le (.ix (.v 1) (.v 3)) (.v 0))) [some (Dd r), some (.r 0), some (.r 1), some (Dd ((L : Int) - 1 - j))] [.lst (fbs L), .lst (up.reverse.map Dd)] = some (decide (fb (L - j - 1) ≤ r), [.lst (fbs L), .lst (up.reverse.map Dd)]) := cmpR (ei r _) rfl rfl
      by_cases hc : fb (L - j - 1) ≤ r
      · rw [decide_eq_true hc] at et
        refine ⟨_, _, rfl, [some (Dd (r - fb (L - j - 1))), some (.r 0), some (.r 1), some (Dd ((L : Int) - 1 - j))], [.lst (fbs L), .lst ((up.reverse.map Dd) ++ [Dd ((L : Int) - 1 - j + 2)])], .inl ?_, r - fb (L - j - 1), (((L - j : Nat) : Int) + 1) :: up, _, rfl, ?_, z.yes (by omega) (by omega) hc, by show up.length + 1 ≤ _; omega⟩
        · refine ifYes et (stSeq (appR (xs := up.reverse.map Dd) (n := 1) rfl (addR (i := (L : Int) - 1 - j) (j := 2) rfl rfl) rfl rfl (by simp; omega)) (stSeq (augSubR (u := r) rfl (ei r _)) rfl)) rfl
        · rw [List.reverse_cons, List.map_append]
          show _ = [O.lst (fbs L), O.lst (up.reverse.map Dd ++ [Dd (((L - j : Nat) : Int) + 1)])]
          rw [show ((L - j : Nat) : Int) + 1 = (L : Int) - 1 - j + 2 by omega]
      · rw [decide_eq_false hc] at et
        exact ⟨_, _, rfl, _, _, .inl (ifNo et rfl), r, up, _, rfl, rfl, z.no (by omega) (by omega), by omega⟩)
  have hlen : ((stepTo ((L : Int) - 1) (-1) L).map Vl.d).length = L := by rw [List.length_map, stepTo_len]
  rw [Nat.zero_add, hlen, Nat.sub_self] at hz
  obtain ⟨z, _⟩ := hz
  have hr : r = 0 := by have h4 := z.r0; have h5 : r < 1 := z.r1; omega
  refine ⟨up, [.lst (fbs L), .lst (up.reverse.map Dd)], fnRun (fn := f_by_two_ahead) rfl rfl ?_, ?_⟩
  · have sN : primD .len [.list ((List.range L).map fun i => PyData.int (fb i))] = some (.int (L : Nat)) := by
      show some (PyData.int (((List.range L).map fun i => PyData.int (fb i)).length : Nat)) = _
      rw [List.length_map, List.length_range]
    have ef : fbs L = ((List.range L).map fun i => PyData.int (fb i)).map Vl.d := by unfold fbs; rw [List.map_map]; rfl
    have cf : ∀ us, curS [.lst (fbs L), .lst us] (.r 0) = some (.list ((List.range L).map fun i => PyData.int (fb i))) := fun us => by
      show (toDs (fbs L)).map PyData.list = _
      rw [ef, toDs_map]
      rfl
    have cu : cur [.lst (fbs L), .lst (up.reverse.map Dd)] (.r 1) = some (.list (up.reverse.map .int)) := by
      show (toDs (up.reverse.map Dd)).map PyData.list = _
      have : up.reverse.map Dd = (up.reverse.map PyData.int).map Vl.d := by rw [List.map_map]; rfl
      rw [this, toDs_map]
      rfl
    refine setR (h1 := [.lst (fbs L)]) (x := .r 0) (callR (h1 := []) (ws := [Dd n]) rfl e0) (setR (h1 := [.lst (fbs L), .lst []]) (x := .r 1) rfl (forSeq (h1 := [.lst (fbs L), .lst []]) (r3down (n := L) (subR (h1 := [.lst (fbs L), .lst []]) (i := L) (j := 1) (prim1 (x := .r 0) rfl (cf _) sN) rfl) rfl rfl (by omega)) e (retR (prim1 (x := .d (.list (up.map .int))) (dx := .list (up.map .int)) ?_ rfl rfl))))
    show cRev (cVar 2) _ _ = _
    unfold cRev
    show (match cur [.lst (fbs L), .lst (up.reverse.map Dd)] (.r 1) with
      | some d => _
      | none => _) = _
    rw [cu]
    show some (Vl.d (PyData.list (up.reverse.map PyData.int).reverse), _) = _
    rw [← List.map_reverse, List.reverse_reverse]
  · refine ⟨by have := z.v; omega, fun p hp => ⟨by have := z.lo p hp; omega, by have := z.hi p hp; omega⟩, z.g⟩

/-! ### is it such a row -/
def FL : List Int := 0 :: (List.range 40).map fun i => if i = 0 then 1 else fb (i - 1)
theorem two40 (k : Nat) : ∃ h', callL fns (k + 1) 17 [Dd 40] [] = some (.d (.list (FL.map .int)), h') := ⟨_, by
  have : callL fns (k + 1) 17 [Dd 40] [] = some (.d (.list (FL.map .int)), [.gone]) := by kernel_rfl
  exact this⟩
end Law

namespace Law
open PySem PySem.Spec L2 MP
theorem fsum_sum : ∀ ps : List Int, (ps.map fun p => fb (p - 2).toNat).sum = fsum ps
  | [] => rfl
  | p :: ps => by
    rw [List.map_cons, List.sum_cons, fsum_sum ps]
    rfl
theorem FL_get {p : Int} (h : 2 ≤ p ∧ p ≤ 39) : FL[p.toNat]? = some (fb (p - 2).toNat) := by
  obtain ⟨m, rfl⟩ : ∃ m : Nat, p = (m : Int) + 2 := ⟨(p - 2).toNat, by omega⟩
  rw [show ((m : Int) + 2).toNat = m + 1 + 1 by omega, show ((m : Int) + 2 - 2).toNat = m by omega]
  show ((List.range 40).map fun i => if i = 0 then 1 else fb (i - 1))[m + 1]? = _
  rw [List.getElem?_map, List.getElem?_range (by omega)]
  rfl
/-- a list comprehension of ints over data -/
theorem lcSq {C : Orc} {own : List Nat} {a : E} {i : I} {t : T} {ρ : Env'} {h h1 : Hm} {xs : List Int} (f : Int → Int) (ei : evI C i ρ h = some (xs.map Dd, h1)) (hn : xs.length ≤ 16777216) (hs : ∀ x ∈ xs, ∃ ρ1, evT C t (Dd x) (wipeE ρ own) h1 = some (ρ1, h1) ∧ ev C a ρ1 h1 = some (Dd (f x), h1)) :
    ev C (.fl (.comp own a t i .nop)) ρ h = some (.d (.list ((xs.map f).map .int)), h1) := by
  refine flRun (compRun ei (by rw [List.length_map]; exact hn) ?_)
  have := compMap (g := evT C t) (e := ev C a) (ρ := wipeE ρ own) (h := h1) (fun w => match w with | .d (.int j) => Dd (f j) | _ => w) (xs := xs.map Dd) (fun x hx => by
    obtain ⟨j, hj, rfl⟩ := List.mem_map.mp hx
    exact hs j hj)
  show compL (evT C t) cYes (ev C a) (wipeE ρ own) (xs.map Dd) h1 = _
  rw [this, List.map_map, List.map_map, List.map_map]
  rfl
theorem sumL (xs : List Int) : primD .sum [.list (xs.map .int)] = some (.int xs.sum) := by
  show (intsD _).map (fun ns => PyData.int ns.sum) = _
  rw [intsD_map]
  rfl
theorem r2R {C : Orc} {a b : E} {ρ : Env'} {h h1 h2 : Hm} {i j : Int} (e : ev C a ρ h = some (Dd i, h1)) (e2 : ev C b ρ h1 = some (Dd j, h2)) (hi : sixty2 i = true) (hj : sixty2 j = true) : evI C (.r2 a b) ρ h = some (rngL i (j - i).toNat, h2) := by
  show iR2 (ev C a) (ev C b) ρ h = _
  unfold iR2
  rw [e]
  simp only
  rw [e2]
  simp only
  rw [hi, hj]
  rfl
theorem isTwo_run (k : Nat) (n : Int) (ps : List Int) (w : Two n 24 ps) (hl : ps.length ≤ 100001) :
    callL fns (k + 2) 18 [.d (Tp ps), Dd n] [] = some (.d (.bool true), []) := by
  obtain ⟨h40, e40⟩ := two40 k
  have sN : primD .len [Tp ps] = some (.int (ps.length : Nat)) := by
    show some (PyData.int ((ps.map PyData.int).length : Nat)) = _
    rw [List.length_map]
  refine fnRun (fn := f__law_is_two) rfl rfl ?_
  refine ifNo (h1 := []) (or2 (h1 := []) (notR (r := true) rfl) (cmpR (h1 := []) (x := .d (.list [])) (y := .d (.list [])) ?_ rfl rfl)) ?_
  · refine flRun (ds := []) (compRun (sq_map _ 0 _ _ ps rfl) (by rw [List.length_map]; omega) (compNone fun x hx => ?_))
    obtain ⟨d, hd1, rfl⟩ := List.mem_map.mp hx
    obtain ⟨h1, h2⟩ := w.b d hd1
    refine ⟨_, rfl, ?_⟩
    have h3 : decide (2 ≤ d) = true := decide_eq_true h1
    have h4 : decide (d < 40) = true := decide_eq_true (by omega)
    have er : (wipeE (List.map some [.d (Tp ps), Dd n] ++ List.replicate (f__law_is_two.ns - f__law_is_two.np) none) [3]).set 3 (some (Dd d)) = [some (.d (Tp ps)), some (Dd n), none, some (Dd d)] := rfl
    rw [er, condOf_or]
    simp only [exs, ex, ev, evs, evT, evI, evF, evAnd, evOr, condOf, partOf, sCons, sNil, sAsg, sPar, sAug, augD, sIf, sRet, sDrop, gNm, gsCons, gsNil, gTp, cBin, cNeg, cTup, cCons, cNil, cVar, cC, cPrim, curs, curS, cur, primD, toDs, toDs_map, toB, ofB, cCmpB, cNot, cAnd, cOr, cIf, cYes, cNoPart, cPart, cFl, cFm, cDisp, cCall, cIx, ixV, ixL, cmpV, cmpD, eqD, ltQ, leI, gtI, isD, inQ, isOf, b_sub, b_add, Option.map, List.map_cons, List.map_nil, List.getElem?_cons_zero, List.getElem?_cons_succ, List.getElem?_nil, List.length_cons, List.length_nil, List.set_cons_zero, List.set_cons_succ, List.set_nil, List.cons_append, List.nil_append, Nat.zero_add, Nat.reduceAdd, okLen1, okLen2, okLen3, okLen4, okLen5, okLen0, ↓reduceIte, if_true, if_false, Bool.false_eq_true, Bool.not_true, Bool.not_false, cCh2, h3, h4]
  refine ifNo (h1 := []) (cmpR (h1 := []) (x := .d (.list [])) (y := .d (.list [])) ?_ rfl rfl) ?_
  · have ei : evI (callL fns (k + 1)) (.r2 (.c (.int 1)) (.prim .len (.cons (.v 0) .nil))) [some (.d (Tp ps)), some (Dd n), none, none] [] = some (rngL 1 ((ps.length : Int) - 1).toNat, []) := by
      have ep : ev (callL fns (k + 1)) (.prim .len (.cons (.v 0) .nil)) [some (.d (Tp ps)), some (Dd n), none, none] [] = some (Dd (ps.length : Nat), []) := prim1 (x := .d (Tp ps)) (dx := Tp ps) rfl rfl sN
      exact r2R (i := 1) (j := (ps.length : Nat)) rfl ep (by decide) (by
        unfold sixty2
        rw [Bool.and_eq_true, decide_eq_true_eq, decide_eq_true_eq]
        omega)
    refine flRun (ds := []) (compRun ei (by rw [rng_len]; omega) (compNone fun x hx => ?_))
    obtain ⟨j, hj, rfl⟩ := mem_rng hx
    obtain ⟨a, ha⟩ : ∃ a, ps[j]? = some a := ⟨_, List.getElem?_eq_getElem (by omega)⟩
    obtain ⟨b, hb⟩ : ∃ b, ps[j + 1]? = some b := ⟨_, List.getElem?_eq_getElem (by omega)⟩
    have hab : a + 2 ≤ b := by
      have := List.pairwise_iff_getElem.mp w.g j (j + 1) (by omega) (by omega) (by omega)
      obtain ⟨q1, q2⟩ := List.getElem?_eq_some_iff.mp ha
      obtain ⟨q3, q4⟩ := List.getElem?_eq_some_iff.mp hb
      rw [q2, q4] at this
      exact this
    refine ⟨_, rfl, cmpR (x := Dd b) (y := Dd (a + 2)) (h1 := []) (ixR (h1 := []) (x := .d (Tp ps)) (dy := .int (1 + (j : Int))) rfl rfl (atT [] ps (by omega) (by rw [show (1 + (j : Int)).toNat = j + 1 by omega]; exact hb))) (addR (h1 := []) (i := a) (j := 2) (ixR (h1 := []) (x := .d (Tp ps)) (dy := .int (1 + (j : Int) - 1)) rfl (subR (h1 := []) (i := 1 + (j : Int)) (j := 1) rfl rfl) (atT [] ps (by omega) (by rw [show (1 + (j : Int) - 1).toNat = j by omega]; exact ha))) rfl) ?_⟩
    show some (decide (b < a + 2)) = _
    rw [decide_eq_false (by omega)]
  have e1 : ev (callL fns (k + 1)) (.fl (.comp [3] (.ix (.callP 17 (.cons (.c (.int 40)) .nil)) (.v 3)) (.nm 3) (.sq (.v 0)) .nop)) [some (.d (Tp ps)), some (Dd n), none, none] [] = some (.d (.list ((ps.map fun p => fb (p - 2).toNat).map .int)), []) := by
    refine lcSq _ (sq_map _ 0 _ _ ps rfl) (by omega) fun p hp => ⟨_, rfl, ?_⟩
    obtain ⟨h1, h2⟩ := w.b p hp
    refine ixR (h1 := []) (x := .d (.list (FL.map .int))) (dy := .int p) (callPR (h1 := []) (ws := [Dd 40]) rfl rfl e40) rfl ?_
    show (atI (FL.map PyData.int) p).map Vl.d = _
    rw [atI_nat (by omega) (by rw [List.length_map]; show p < ((41 : Nat) : Int); omega), List.getElem?_map, FL_get ⟨h1, by omega⟩]
    rfl
  refine retR (ofTB (r := true) (cmpR (h1 := []) (x := Dd n) (y := Dd n) (prim1 e1 rfl ?_) rfl ?_))
  · rw [sumL, fsum_sum, w.v]
  · show some (n == n) = _
    simp
theorem Two.len : ∀ {hi : Int} {ps : List Int}, (∀ p ∈ ps, 2 ≤ p ∧ p ≤ hi) → ps.Pairwise (fun a b => a + 2 ≤ b) → ∀ c, (∀ p ∈ ps, c ≤ p) → ps = [] ∨ (ps.length : Int) ≤ hi - c + 1
  | _, [], _, _, _, _ => .inl rfl
  | hi, p :: ps, hb, g, c, hc => by
    rw [List.pairwise_cons] at g
    have h1 := hb p List.mem_cons_self
    have h2 := hc p List.mem_cons_self
    rcases Two.len (fun q hq => hb q (List.mem_cons_of_mem _ hq)) g.2 (p + 2) g.1 with h | h
    · subst h
      refine .inr ?_
      simp
      omega
    · refine .inr ?_
      rw [List.length_cons]
      omega
end Law

namespace Law
open PySem PySem.Spec L2 MP
theorem alike_ints (x : Int) (xs : List Int) : primD .max1 [.tuple (.int x :: xs.map .int)] = some (.int (xs.foldl max x)) := by
  have ha : alikeOk (PyData.int x :: xs.map .int) = true := by
    unfold alikeOk
    rw [Bool.and_eq_true, Bool.and_eq_true]
    refine ⟨shp_lst (x :: xs), ?_, ?_⟩
    · rw [← List.map_cons, List.all_map, List.all_eq_true]
      intro a _
      show ((x :: xs).map PyData.int).all _ = true
      rw [List.all_map, List.all_eq_true]
      intro b _
      rfl
    · rw [← List.map_cons, List.all_map, List.all_eq_true]
      intro a _
      rfl
  show (if alikeOk (PyData.int x :: xs.map .int) then some (PySem.W.maxD (.int x) (xs.map .int)) else none) = _
  rw [if_pos ha, PySem.W.maxD_ints]
theorem le_fold : ∀ (ps : List Int) (c : Int), c ≤ ps.foldl max c ∧ ∀ p ∈ ps, p ≤ ps.foldl max c
  | [], c => ⟨Int.le_refl _, fun _ h => absurd h (by simp)⟩
  | q :: ps, c => by
    obtain ⟨h1, h2⟩ := le_fold ps (max c q)
    refine ⟨?_, fun p hp => ?_⟩
    · show c ≤ ps.foldl max (max c q); omega
    · show p ≤ ps.foldl max (max c q)
      rcases List.mem_cons.mp hp with rfl | hp
      · omega
      · exact h2 p hp
theorem fold_le {ps : List Int} {c M : Int} (hc : c ≤ M) (h : ∀ p ∈ ps, p ≤ M) : ps.foldl max c ≤ M := by
  induction ps generalizing c with
  | nil => exact hc
  | cons q ps ih => exact ih (by have := h q List.mem_cons_self; omega) fun p hp => h p (List.mem_cons_of_mem _ hp)
theorem nb_two (k : Nat) (n : Int) (ps : List Int) (w : Two n 24 ps) (hl : ps.length ≤ 100001) :
    ∃ h', callL fns (k + 2) 7 [.d (.str "two"), .d (Tp ps), .d .none] [] = some (Dd n, h') := by
  have e5 : callL fns (k + 1) 5 [Dd 1] [] = some (.r 0, [.lst (fbs 2)]) := by kernel_rfl
  have sL : ∀ L : Nat, primD .len [.list ((List.range L).map fun i => PyData.int (fb i))] = some (.int (L : Nat)) := fun L => by
    show some (PyData.int (((List.range L).map fun i => PyData.int (fb i)).length : Nat)) = _
    rw [List.length_map, List.length_range]
  have cf : ∀ L, curS [.lst (fbs L)] (.r 0) = some (.list ((List.range L).map fun i => PyData.int (fb i))) := fun L => by
    have ef : fbs L = ((List.range L).map fun i => PyData.int (fb i)).map Vl.d := by unfold fbs; rw [List.map_map]; rfl
    show (toDs (fbs L)).map PyData.list = _
    rw [ef, toDs_map]
    rfl
  obtain ⟨m1, m2⟩ := le_fold ps 0
  have m3 : ps.foldl max 0 ≤ 24 := fold_le (by omega) fun p hp => (w.b p hp).2
  generalize hM : ps.foldl max 0 = M at m1 m2 m3
  have em : ∀ (L : Nat), ev (callL fns (k + 1)) (.prim .max1 (.cons (.bin .add (.tup (.cons (.c (.int 0)) .nil)) (.v 1)) .nil)) [some (.d (.str "two")), some (.d (Tp ps)), some (.d .none), none, none, none, some (.r 0), none, none] [.lst (fbs L)] = some (Dd M, [.lst (fbs L)]) := fun L => by
    refine prim1 (x := .d (.tuple (.int 0 :: ps.map .int))) (dx := .tuple (.int 0 :: ps.map .int)) (binR (h1 := [.lst (fbs L)]) (x := .d (.tuple [.int 0])) (y := .d (Tp ps)) (dx := .tuple [.int 0]) (dy := Tp ps) rfl rfl rfl rfl (b_addT [.int 0] (ps.map .int) (by simp; omega))) rfl ?_
    rw [alike_ints, hM]
  obtain ⟨ρ', h', e, L, rfl, rfl, h1, h2⟩ := whileRun (c := toB (ev (callL fns (k + 1)) (.cmp .lt (.prim .len (.cons (.v 6) .nil)) (.prim .max1 (.cons (.bin .add (.tup (.cons (.c (.int 0)) .nil)) (.v 1)) .nil))))) (b := exs (callL fns (k + 1)) (.cons (.app (.v 6) (.bin .add (.ix (.v 6) (.neg (.c (.int 1)))) (.ix (.v 6) (.neg (.c (.int 2)))))) .nil))
    (fun m ρ h => ∃ L : Nat, ρ = [some (.d (.str "two")), some (.d (Tp ps)), some (.d .none), none, none, none, some (.r 0), none, none] ∧ h = [.lst (fbs L)] ∧ 2 ≤ L ∧ L ≤ 24 ∧ m = 24 - L)
    (fun ρ h => ∃ L : Nat, ρ = [some (.d (.str "two")), some (.d (Tp ps)), some (.d .none), none, none, none, some (.r 0), none, none] ∧ h = [.lst (fbs L)] ∧ 2 ≤ L ∧ M ≤ L)
    (by
      rintro m ρ h ⟨L, rfl, rfl, h1, h2, rfl⟩
      refine ⟨decide ((L : Int) < M), [.lst (fbs L)], cmpR (h1 := [.lst (fbs L)]) (x := Dd (L : Nat)) (y := Dd M) (prim1 (x := .r 0) rfl (cf L) (sL L)) (em L) rfl, ?_⟩
      by_cases hc : (L : Int) < M
      · refine .inr ⟨by simp [hc], _, [.lst (fbs (L + 1))], .inl ?_, 24 - (L + 1), by omega, L + 1, rfl, rfl, by omega, by omega, rfl⟩
        have e1 : ev (callL fns (k + 1)) (.bin .add (.ix (.v 6) (.neg (.c (.int 1)))) (.ix (.v 6) (.neg (.c (.int 2))))) [some (.d (.str "two")), some (.d (Tp ps)), some (.d .none), none, none, none, some (.r 0), none, none] [.lst (fbs L)] = some (Dd (fb (L - 1) + fb (L - 2)), [.lst (fbs L)]) :=
          addR (h1 := [.lst (fbs L)]) (ixR (h1 := [.lst (fbs L)]) (x := .r 0) (dy := .int (-1)) rfl rfl (fbs_neg (j := 1) (Nat.le_refl _) (by omega) _ 0 rfl _ rfl)) (ixR (h1 := [.lst (fbs L)]) (x := .r 0) (dy := .int (-2)) rfl rfl (fbs_neg (j := 2) (by omega) (by omega) _ 0 rfl _ rfl))
        have e2 : fb (L - 1) + fb (L - 2) = fb L := by
          obtain ⟨m, rfl⟩ : ∃ m, L = m + 2 := ⟨L - 2, by omega⟩
          rfl
        rw [e2] at e1
        rw [fbs_succ]
        exact seqRun (appR (xs := fbs L) rfl e1 rfl rfl (by rw [fbs_len]; omega)) rfl
      · exact .inl ⟨by simp [hc], L, rfl, rfl, h1, by omega⟩)
    lots 22 [some (.d (.str "two")), some (.d (Tp ps)), some (.d .none), none, none, none, some (.r 0), none, none] [.lst (fbs 2)] (by unfold lots; omega) ⟨2, rfl, rfl, by omega, by omega, rfl⟩
  refine ⟨[.lst (fbs L)], fnRun (fn := f_number_by) rfl rfl ?_⟩
  have hk : cmpV .eq [] (.d (.str "two")) (.d (.str "two")) = some true := by show eqD (.str "two") (.str "two") = some true; decide +kernel
  refine ifRet (h1 := []) (cmpR (h1 := []) (x := .d (.str "two")) (y := .d (.str "two")) rfl rfl hk) (setR (h1 := [.lst (fbs 2)]) (x := .r 0) (callR (h1 := []) (ws := [Dd 1]) rfl e5) (whlSeq e (retR (prim1 (dx := .list ((ps.map fun p => fb (p - 2).toNat).map .int)) (lcSq (h1 := [.lst (fbs L)]) (fun p => fb (p - 2).toNat) (sq_map _ 1 _ _ ps rfl) (by omega) fun p hp => ⟨_, rfl, ?_⟩) rfl ?_))))
  · obtain ⟨h3, h4⟩ := w.b p hp
    have h5 := m2 p hp
    exact ixR (h1 := [.lst (fbs L)]) (x := .r 0) (dy := .int (p - 2)) rfl (subR (h1 := [.lst (fbs L)]) (i := p) (j := 2) rfl rfl) (fbs_at _ 0 rfl _ (by omega) (by omega))
  · rw [sumL, fsum_sum, w.v]
end Law

namespace Law
open PySem PySem.Spec L2 MP
/-! ### the draws -/
def drIn : Ss := (.cons (.ife (.cmp .gt (.v 6) (.c (.int 0))) (.cons (.app (.v 2) (.bin .mod (.prim .int (.cons (.v 6) .nil)) (.c (.int 997)))) (.cons (.asg (.nm 6) (.bin .fdiv (.v 6) (.c (.int 997)))) .nil)) .nil) .nil)
def drB1 : Ss := (.cons (.asg (.nm 5) (.prim .abs (.cons (.prim .int (.cons (.ix (.v 0) (.v 4)) .nil)) .nil))) (.cons (.asg (.nm 3) (.bin .mod (.prim .int (.cons (.bin .add (.bin .add (.bin .mul (.v 3) (.c (.int 48271))) (.bin .mod (.v 5) (.c (.int 1000003)))) (.v 4)) .nil)) (.c (.int 65537)))) (.cons (.asg (.nm 6) (.c (.int 0))) (.cons (.ife (.cmp .ge (.v 5) (.bin .pow (.c (.int 10)) (.c (.int 18)))) (.cons (.asg (.nm 6) (.v 5)) .nil) (.cons (.app (.v 2) (.bin .mod (.prim .int (.cons (.v 5) .nil)) (.c (.int 997)))) (.cons (.app (.v 2) (.bin .mod (.bin .mod (.prim .int (.cons (.bin .add (.bin .mul (.v 3) (.c (.int 69621))) (.c (.int 5))) .nil)) (.c (.int 65521))) (.c (.int 997)))) .nil))) (.cons (.for_ (.nm 7) (.r1 (.c (.int 60))) drIn) .nil)))))
def drB2 : Ss := (.cons (.asg (.nm 3) (.bin .mod (.prim .int (.cons (.bin .add (.bin .add (.bin .mul (.v 3) (.c (.int 16807))) (.v 4)) (.c (.int 1))) .nil)) (.c (.int 65537)))) (.cons (.app (.v 2) (.bin .mod (.prim .int (.cons (.v 3) .nil)) (.c (.int 997)))) .nil))
theorem intR (i : Int) : primD .int [.int i] = some (.int i) := rfl
theorem absR (i : Int) : primD .abs [.int i] = some (.int (if i < 0 then -i else i)) := rfl
theorem modR {C : Orc} {a b : E} {ρ : Env'} {h h1 h2 : Hm} {i j : Int} (e1 : ev C a ρ h = some (.d (.int i), h1)) (e2 : ev C b ρ h1 = some (.d (.int j), h2)) (hj : 0 < j) : ev C (.bin .mod a b) ρ h = some (.d (.int (i % j)), h2) := binR e1 e2 rfl rfl (b_mod i j hj)
theorem drIn_run (C : Orc) (s : Vl) (dr : List Int) (many m k c r : Int) (t : Option Vl) (hl : dr.length ≤ 1000000) :
    ∃ (dr' : List Int) (r' : Int), exs C drIn [some s, some (Dd many), some (.r 0), some (Dd m), some (Dd k), some (Dd c), some (Dd r), t] [.lst (dr.map Dd)] = some (.nx [some s, some (Dd many), some (.r 0), some (Dd m), some (Dd k), some (Dd c), some (Dd r'), t], [.lst (dr'.map Dd)]) ∧ dr'.length ≤ dr.length + 1 := by
  have et : toB (ev C (.cmp .gt (.v 6) (.c (.int 0)))) [some s, some (Dd many), some (.r 0), some (Dd m), some (Dd k), some (Dd c), some (Dd r), t] [.lst (dr.map Dd)] = some (decide (0 < r), [.lst (dr.map Dd)]) := cmpR (h1 := [.lst (dr.map Dd)]) (x := Dd r) (y := Dd 0) rfl rfl rfl
  by_cases hr : 0 < r
  · rw [decide_eq_true hr] at et
    refine ⟨dr ++ [r % 997], r / 997, ?_, by simp⟩
    refine ifYes et (stSeq (appR (xs := dr.map Dd) (w := Dd (r % 997)) (n := 0) rfl (modR (h1 := [.lst (dr.map Dd)]) (i := r) (j := 997) (prim1 (x := Dd r) (dx := .int r) rfl rfl rfl) rfl (by decide)) rfl rfl (by rw [List.length_map]; omega)) (setR (h1 := [.lst (dr.map Dd ++ [Dd (r % 997)])]) (x := Dd (r / 997)) (binR (h1 := [.lst (dr.map Dd ++ [Dd (r % 997)])]) (x := Dd r) (y := Dd 997) (dx := .int r) (dy := .int 997) rfl rfl rfl rfl rfl) rfl)) ?_
    rw [List.map_append]
    rfl
  · rw [decide_eq_false hr] at et
    exact ⟨dr, r, ifNo et rfl, by omega⟩
theorem scriptR (h : Hm) (ns : List Int) (j : Nat) (hj : j < ns.length) : ixV h (.s ns) (.int j) = some (Dd (ns[j])) := by
  show (atI (ns.map PyData.int) (j : Int)).map Vl.d = _
  rw [atI_nat (by omega) (by rw [List.length_map]; omega), Int.toNat_natCast, List.getElem?_map, List.getElem?_eq_getElem hj]
  rfl
theorem drB1_run (C : Orc) (ns : List Int) (dr : List Int) (many m : Int) (j : Nat) (y5 y6 y7 : Option Vl) (hj : j < ns.length) (hl : dr.length ≤ 100000) :
    ∃ (dr' : List Int) (m' : Int) (z5 z6 z7 : Option Vl), exs C drB1 [some (.s ns), some (Dd many), some (.r 0), some (Dd m), some (Dd j), y5, y6, y7] [.lst (dr.map Dd)] = some (.nx [some (.s ns), some (Dd many), some (.r 0), some (Dd m'), some (Dd j), z5, z6, z7], [.lst (dr'.map Dd)]) ∧ dr'.length ≤ dr.length + 62 := by
  generalize hc : (if ns[j] < 0 then -ns[j] else ns[j]) = c
  generalize hm : (m * 48271 + c % 1000003 + (j : Int)) % 65537 = m2
  have mid : ∃ (dr1 : List Int) (r : Int), ex C (.ife (.cmp .ge (.v 5) (.bin .pow (.c (.int 10)) (.c (.int 18)))) (.cons (.asg (.nm 6) (.v 5)) .nil) (.cons (.app (.v 2) (.bin .mod (.prim .int (.cons (.v 5) .nil)) (.c (.int 997)))) (.cons (.app (.v 2) (.bin .mod (.bin .mod (.prim .int (.cons (.bin .add (.bin .mul (.v 3) (.c (.int 69621))) (.c (.int 5))) .nil)) (.c (.int 65521))) (.c (.int 997)))) .nil)))
      [some (.s ns), some (Dd many), some (.r 0), some (Dd m2), some (Dd j), some (Dd c), some (Dd 0), y7] [.lst (dr.map Dd)] = some (.nx [some (.s ns), some (Dd many), some (.r 0), some (Dd m2), some (Dd j), some (Dd c), some (Dd r), y7], [.lst (dr1.map Dd)]) ∧ dr1.length ≤ dr.length + 2 := by
    have et : toB (ev C (.cmp .ge (.v 5) (.bin .pow (.c (.int 10)) (.c (.int 18))))) [some (.s ns), some (Dd many), some (.r 0), some (Dd m2), some (Dd j), some (Dd c), some (Dd 0), y7] [.lst (dr.map Dd)] = some (decide ((10 : Int) ^ 18 ≤ c), [.lst (dr.map Dd)]) := cmpR (h1 := [.lst (dr.map Dd)]) (x := Dd c) (y := Dd ((10 : Int) ^ 18)) rfl (binR (h1 := [.lst (dr.map Dd)]) (x := Dd 10) (y := Dd 18) (dx := .int 10) (dy := .int 18) rfl rfl rfl rfl rfl) rfl
    by_cases h10 : (10 : Int) ^ 18 ≤ c
    · rw [decide_eq_true h10] at et
      refine ⟨dr, c, ?_, by omega⟩
      show sIf (toB (ev C (.cmp .ge (.v 5) (.bin .pow (.c (.int 10)) (.c (.int 18)))))) _ _ _ _ = _
      unfold sIf
      rw [et]
      rfl
    · rw [decide_eq_false h10] at et
      refine ⟨(dr ++ [c % 997]) ++ [(m2 * 69621 + 5) % 65521 % 997], 0, ?_, by simp⟩
      show sIf (toB (ev C (.cmp .ge (.v 5) (.bin .pow (.c (.int 10)) (.c (.int 18)))))) _ (exs C (.cons (.app (.v 2) (.bin .mod (.prim .int (.cons (.v 5) .nil)) (.c (.int 997)))) (.cons (.app (.v 2) (.bin .mod (.bin .mod (.prim .int (.cons (.bin .add (.bin .mul (.v 3) (.c (.int 69621))) (.c (.int 5))) .nil)) (.c (.int 65521))) (.c (.int 997)))) .nil))) _ _ = _
      unfold sIf
      rw [et]
      refine stSeq (appR (xs := dr.map Dd) (w := Dd (c % 997)) (n := 0) rfl (modR (h1 := [.lst (dr.map Dd)]) (i := c) (j := 997) (prim1 (x := Dd c) (dx := .int c) rfl rfl rfl) rfl (by decide)) rfl rfl (by rw [List.length_map]; omega)) (stSeq (appR (xs := dr.map Dd ++ [Dd (c % 997)]) (h1 := [.lst (dr.map Dd ++ [Dd (c % 997)])]) (w := Dd ((m2 * 69621 + 5) % 65521 % 997)) (n := 0) rfl (modR (h1 := [.lst (dr.map Dd ++ [Dd (c % 997)])]) (i := (m2 * 69621 + 5) % 65521) (j := 997) (modR (h1 := [.lst (dr.map Dd ++ [Dd (c % 997)])]) (i := m2 * 69621 + 5) (j := 65521) (prim1 (x := Dd (m2 * 69621 + 5)) (dx := .int (m2 * 69621 + 5)) (addR (h1 := [.lst (dr.map Dd ++ [Dd (c % 997)])]) (i := m2 * 69621) (j := 5) (mulR (h1 := [.lst (dr.map Dd ++ [Dd (c % 997)])]) (i := m2) (j := 69621) rfl rfl (.inr (by decide))) rfl) rfl rfl) rfl (by decide)) rfl (by decide)) rfl rfl (by simp; omega)) ?_)
      rw [List.map_append, List.map_append]
      rfl
  obtain ⟨dr1, r, em, hl1⟩ := mid
  obtain ⟨ρ', h', e, dr2, r2, t2, rfl, rfl, hl2⟩ := forRun (g := evT C (.nm 7)) (b := exs C drIn)
    (fun i ρ h => ∃ (dr2 : List Int) (r2 : Int) (t : Option Vl), ρ = [some (.s ns), some (Dd many), some (.r 0), some (Dd m2), some (Dd j), some (Dd c), some (Dd r2), t] ∧ h = [.lst (dr2.map Dd)] ∧ dr2.length ≤ dr1.length + i)
    (rngL 0 60) 0 [some (.s ns), some (Dd many), some (.r 0), some (Dd m2), some (Dd j), some (Dd c), some (Dd r), y7] [.lst (dr1.map Dd)]
    ⟨dr1, r, y7, rfl, rfl, Nat.le_refl _⟩
    (by
      rintro i x ρ h hx ⟨dr2, r2, t, rfl, rfl, hl2⟩
      obtain ⟨hi, rfl⟩ := rng_get hx
      obtain ⟨dr3, r3, e3, hl3⟩ := drIn_run C (.s ns) dr2 many m2 j c r2 (some (Dd (0 + (i : Int)))) (by omega)
      exact ⟨_, _, rfl, _, _, .inl e3, dr3, r3, _, rfl, rfl, by omega⟩)
  rw [rng_len] at hl2
  refine ⟨dr2, m2, some (Dd c), some (Dd r2), t2, ?_, by omega⟩
  refine setR (h1 := [.lst (dr.map Dd)]) (x := Dd c) (prim1 (x := Dd ns[j]) (dx := .int ns[j]) (prim1 (x := Dd ns[j]) (dx := .int ns[j]) (ixR (h1 := [.lst (dr.map Dd)]) (x := .s ns) (dy := .int j) rfl rfl (scriptR _ ns j hj)) rfl rfl) rfl (by rw [absR, hc])) ?_
  refine setR (h1 := [.lst (dr.map Dd)]) (x := Dd m2) (by
    rw [← hm]
    exact modR (h1 := [.lst (dr.map Dd)]) (i := m * 48271 + c % 1000003 + (j : Int)) (j := 65537) (prim1 (x := Dd (m * 48271 + c % 1000003 + (j : Int))) (dx := .int (m * 48271 + c % 1000003 + (j : Int))) (addR (h1 := [.lst (dr.map Dd)]) (i := m * 48271 + c % 1000003) (j := j) (addR (h1 := [.lst (dr.map Dd)]) (i := m * 48271) (j := c % 1000003) (mulR (h1 := [.lst (dr.map Dd)]) (i := m) (j := 48271) rfl rfl (.inr (by decide))) (modR (h1 := [.lst (dr.map Dd)]) (i := c) (j := 1000003) rfl rfl (by decide))) rfl) rfl rfl) rfl (by decide)) ?_
  exact setR (h1 := [.lst (dr.map Dd)]) (x := Dd 0) rfl (stSeq em (forSeq (h1 := [.lst (dr1.map Dd)]) (r1R (j := 60) rfl (by decide)) e rfl))
theorem draws_run (k : Nat) (ns : List Int) (many : Nat) (hn : ns.length ≤ 63) (hm : many ≤ 1000) :
    ∃ (ds : List Int) (h' : Hm), callL fns (k + 1) 8 [.s ns, Dd many] [] = some (.d (.list (ds.map .int)), h') := by
  obtain ⟨ρ1, hh1, e1, dr1, m1, y4, y5, y6, y7, rfl, rfl, hl1⟩ := forRun (g := evT (callL fns k) (.nm 4)) (b := exs (callL fns k) drB1)
    (fun i ρ h => ∃ (dr : List Int) (m : Int) (y4 y5 y6 y7 : Option Vl), ρ = [some (.s ns), some (Dd many), some (.r 0), some (Dd m), y4, y5, y6, y7] ∧ h = [.lst (dr.map Dd)] ∧ dr.length ≤ 62 * i)
    (rngL 0 ns.length) 0 [some (.s ns), some (Dd many), some (.r 0), some (Dd 7), none, none, none, none] [.lst []]
    ⟨[], 7, none, none, none, none, rfl, rfl, Nat.le_refl _⟩
    (by
      rintro j x ρ h hx ⟨dr, m, y4, y5, y6, y7, rfl, rfl, hl⟩
      obtain ⟨hj, rfl⟩ := rng_get hx
      rw [Int.zero_add]
      obtain ⟨dr', m', z5, z6, z7, e, hl'⟩ := drB1_run (callL fns k) ns dr many m j y5 y6 y7 hj (by omega)
      exact ⟨_, _, rfl, _, _, .inl e, dr', m', _, z5, z6, z7, rfl, rfl, by omega⟩)
  rw [rng_len] at hl1
  obtain ⟨ρ2, hh2, e2, dr2, m2, y4', rfl, rfl, hl2⟩ := forRun (g := evT (callL fns k) (.nm 4)) (b := exs (callL fns k) drB2)
    (fun i ρ h => ∃ (dr : List Int) (m : Int) (y4 : Option Vl), ρ = [some (.s ns), some (Dd many), some (.r 0), some (Dd m), y4, y5, y6, y7] ∧ h = [.lst (dr.map Dd)] ∧ dr.length ≤ dr1.length + i)
    (rngL 0 many) 0 [some (.s ns), some (Dd many), some (.r 0), some (Dd m1), y4, y5, y6, y7] [.lst (dr1.map Dd)]
    ⟨dr1, m1, y4, rfl, rfl, Nat.le_refl _⟩
    (by
      rintro j x ρ h hx ⟨dr, m, y4, rfl, rfl, hl⟩
      obtain ⟨hj, rfl⟩ := rng_get hx
      rw [Int.zero_add]
      generalize hm2 : (m * 16807 + (j : Int) + 1) % 65537 = m2
      refine ⟨_, _, rfl, [some (.s ns), some (Dd many), some (.r 0), some (Dd m2), some (Dd j), y5, y6, y7], [.lst ((dr ++ [m2 % 997]).map Dd)], .inl ?_, dr ++ [m2 % 997], m2, _, rfl, rfl, by simp; omega⟩
      refine setR (h1 := [.lst (dr.map Dd)]) (x := Dd m2) (by
        rw [← hm2]
        exact modR (h1 := [.lst (dr.map Dd)]) (i := m * 16807 + (j : Int) + 1) (j := 65537) (prim1 (x := Dd (m * 16807 + (j : Int) + 1)) (dx := .int (m * 16807 + (j : Int) + 1)) (addR (h1 := [.lst (dr.map Dd)]) (i := m * 16807 + (j : Int)) (j := 1) (addR (h1 := [.lst (dr.map Dd)]) (i := m * 16807) (j := j) (mulR (h1 := [.lst (dr.map Dd)]) (i := m) (j := 16807) rfl rfl (.inr (by decide))) rfl) rfl) rfl rfl) rfl (by decide)) ?_
      refine stSeq (appR (xs := dr.map Dd) (w := Dd (m2 % 997)) (n := 0) rfl (modR (h1 := [.lst (dr.map Dd)]) (i := m2) (j := 997) (prim1 (x := Dd m2) (dx := .int m2) rfl rfl rfl) rfl (by decide)) rfl rfl (by rw [List.length_map]; omega)) ?_
      rw [List.map_append]
      rfl)
  have cd : toDs (dr2.map Dd) = some (dr2.map .int) := by
    have : dr2.map Dd = (dr2.map PyData.int).map Vl.d := by rw [List.map_map]; rfl
    rw [this, toDs_map]
  refine ⟨cutL dr2 none (some (many : Int)), [.lst (dr2.map Dd)], fnRun (fn := f__law_draws) rfl rfl ?_⟩
  refine setR (h1 := [.lst []]) (x := .r 0) rfl (setR (h1 := [.lst []]) (x := Dd 7) rfl (forSeq (h1 := [.lst []]) (r1R (j := ns.length) (prim1 (x := .s ns) (dx := .list (ns.map .int)) rfl rfl ?_) (by omega)) e1 (forSeq (h1 := [.lst (dr1.map Dd)]) (r1R (j := many) rfl (by omega)) e2 (retR ?_))))
  · show some (PyData.int ((ns.map PyData.int).length : Nat)) = _
    rw [List.length_map]
  · show cSl (cVar 2) cNoPart (cPart (cVar 1)) _ _ = _
    unfold cSl
    show (match cur [.lst (dr2.map Dd)] (.r 0) with
      | some d => match slD none (some (many : Int)) d with
        | some z => some (Vl.d z, [O.lst (dr2.map Dd)])
        | none => none
      | none => none) = _
    have cc : cur [.lst (dr2.map Dd)] (.r 0) = some (.list (dr2.map .int)) := by
      show (toDs (dr2.map Dd)).map PyData.list = _
      rw [cd]
      rfl
    rw [cc]
    show some (Vl.d (PyData.list (cutL (dr2.map PyData.int) none (some (many : Int)))), _) = _
    have : cutL (dr2.map PyData.int) none (some (many : Int)) = (cutL dr2 none (some (many : Int))).map PyData.int := by
      unfold cutL
      rw [List.length_map, List.map_take, List.map_drop]
    rw [this]
/-! ### the next draw -/
def wO (ds : List Int) (a : Int) : O := .dic [(.inr "draws", .d (.list (ds.map .int))), (.inr "at", Dd a)]
theorem at_ne : ¬ ((Sum.inr (Str.ofString "draws") : Key) = .inr "at") := by decide +kernel
theorem wAt (h : Hm) (n : Nat) (ds : List Int) (a : Int) (hn : h[n]? = some (wO ds a)) : ixV h (.r n) (.str "at") = some (Dd a) := by
  unfold ixV
  simp only [hn, wO]
  show look [((.inr "draws" : Key), Vl.d (.list (ds.map .int))), (.inr "at", Dd a)] (.inr "at") = _
  unfold look
  rw [if_neg at_ne]
  unfold look
  rw [if_pos rfl]
theorem wDr (h : Hm) (n : Nat) (ds : List Int) (a : Int) (hn : h[n]? = some (wO ds a)) : ixV h (.r n) (.str "draws") = some (.d (.list (ds.map .int))) := by
  unfold ixV
  simp only [hn, wO]
  show look [((.inr "draws" : Key), Vl.d (.list (ds.map .int))), (.inr "at", Dd a)] (.inr "draws") = _
  unfold look
  rw [if_pos rfl]
theorem wPut (h : Hm) (n : Nat) (ds : List Int) (a b : Int) (hn : h[n]? = some (wO ds a)) : MP.putAt h (.r n) (.str "at") (Dd b) = some (h.set n (wO ds b)) := by
  unfold MP.putAt
  simp only [hn, wO]
  show (if okLen 3 then some (h.set n (.dic (putV [((.inr "draws" : Key), Vl.d (.list (ds.map .int))), (.inr "at", Dd a)] (.inr "at") (Dd b)))) else none) = _
  rw [if_pos okLen3]
  have e : putV [((.inr "draws" : Key), Vl.d (.list (ds.map .int))), (.inr "at", Dd a)] (.inr "at") (Dd b) = [((.inr "draws" : Key), Vl.d (.list (ds.map .int))), (.inr "at", Dd b)] := by
    unfold putV
    rw [if_pos (by simp)]
    simp only [List.map_cons, List.map_nil, if_neg at_ne, if_pos]
  rw [e]
theorem set_at {h : Hm} {n : Nat} {o o' : O} (hn : h[n]? = some o) : (h.set n o')[n]? = some o' := List.getElem?_set_self (List.getElem?_eq_some_iff.mp hn).1
theorem next_run (k : Nat) (h : Hm) (n : Nat) (ds : List Int) (a many : Int) (hn : h[n]? = some (wO ds a)) (ha : 0 ≤ a) (hm : 0 < many) :
    ∃ r : Int, callL fns (k + 1) 9 [.r n, Dd many] h = some (Dd r, h.set n (wO ds (a + 1))) ∧ 0 ≤ r ∧ r < many := by
  have hs : (h.set n (wO ds (a + 1)))[n]? = some (wO ds (a + 1)) := set_at hn
  have e1 : ex (callL fns k) (.augS (.v 0) (.c (.str "at")) .add (.c (.int 1))) [some (.r n), some (Dd many)] h = some (.nx [some (.r n), some (Dd many)], h.set n (wO ds (a + 1))) := by
    exact augSR (h1 := h) (h2 := h) (h3 := h) (x := .r n) (dy := .str "at") rfl rfl (wAt h n ds a hn) rfl (wPut h n ds a (a + 1) hn)
  have el : ev (callL fns k) (.prim .len (.cons (.ix (.v 0) (.c (.str "draws"))) .nil)) [some (.r n), some (Dd many)] (h.set n (wO ds (a + 1))) = some (Dd (ds.length : Nat), h.set n (wO ds (a + 1))) := by
    refine prim1 (x := .d (.list (ds.map .int))) (dx := .list (ds.map .int)) (ixR (h1 := h.set n (wO ds (a + 1))) (x := .r n) (dy := .str "draws") rfl rfl (wDr _ n ds _ hs)) rfl ?_
    show some (PyData.int ((ds.map PyData.int).length : Nat)) = _
    rw [List.length_map]
  have ea : ev (callL fns k) (.ix (.v 0) (.c (.str "at"))) [some (.r n), some (Dd many)] (h.set n (wO ds (a + 1))) = some (Dd (a + 1), h.set n (wO ds (a + 1))) := ixR (h1 := h.set n (wO ds (a + 1))) (x := .r n) (dy := .str "at") rfl rfl (wAt _ n ds _ hs)
  by_cases hc : (ds.length : Int) < a + 1
  · refine ⟨0, fnRun (fn := f__law_next) rfl rfl (stSeq e1 (ifRet (h1 := h.set n (wO ds (a + 1))) (cmpR ea el ?_) (retR rfl))), Int.le_refl _, hm⟩
    show some (decide ((ds.length : Int) < a + 1)) = _
    rw [decide_eq_true hc]
  · obtain ⟨d, hd⟩ : ∃ d, ds[a.toNat]? = some d := ⟨_, List.getElem?_eq_getElem (by omega)⟩
    refine ⟨d % many, fnRun (fn := f__law_next) rfl rfl (stSeq e1 (ifNo (h1 := h.set n (wO ds (a + 1))) (cmpR ea el ?_) (retR (modR (i := d) (j := many) (prim1 (x := Dd d) (dx := .int d) (ixR (x := .d (.list (ds.map .int))) (dy := .int (a + 1 - 1)) (ixR (h1 := h.set n (wO ds (a + 1))) (x := .r n) (dy := .str "draws") rfl rfl (wDr _ n ds _ hs)) (subR (i := a + 1) (j := 1) ea rfl) ?_) rfl rfl) rfl hm)))), Int.emod_nonneg _ (by omega), Int.emod_lt_of_pos _ hm⟩
    · show some (decide ((ds.length : Int) < a + 1)) = _
      rw [decide_eq_false hc]
    · show (atI (ds.map PyData.int) (a + 1 - 1)).map Vl.d = _
      rw [show a + 1 - 1 = a by omega, atI_nat ha (by rw [List.length_map]; omega), List.getElem?_map, hd]
      rfl
theorem pick_run (k : Nat) (h : Hm) (n : Nat) (ds : List Int) (a : Int) (rows : List Int) (hn : h[n]? = some (wO ds a)) (ha : 0 ≤ a) (hr : rows ≠ []) :
    ∃ x ∈ rows, callL fns (k + 2) 10 [.r n, .d (.list (rows.map .int))] h = some (Dd x, h.set n (wO ds (a + 1))) := by
  have hlen : 0 < (rows.length : Int) := by
    cases rows with
    | nil => exact absurd rfl hr
    | cons a b => simp
  obtain ⟨r, e, h1, h2⟩ := next_run k h n ds a rows.length hn ha hlen
  obtain ⟨x, hx⟩ : ∃ x, rows[r.toNat]? = some x := ⟨_, List.getElem?_eq_getElem (by omega)⟩
  refine ⟨x, List.mem_of_getElem? hx, fnRun (fn := f__law_pick) rfl rfl (retR (ixR (h1 := h) (x := .d (.list (rows.map .int))) (dy := .int r) rfl (callR (h1 := h) (ws := [.r n, Dd rows.length]) (evs2 (h1 := h) (x := .r n) (y := Dd rows.length) rfl (prim1 (x := .d (.list (rows.map .int))) (dx := .list (rows.map .int)) rfl rfl ?_)) e) ?_))⟩
  · show some (PyData.int ((rows.map PyData.int).length : Nat)) = _
    rw [List.length_map]
  · show (atI (rows.map PyData.int) r).map Vl.d = _
    rw [atI_nat h1 (by rw [List.length_map]; omega), List.getElem?_map, hx]
    rfl
/-! ### alike: ints -/
theorem alike_int (k : Nat) (i : Int) : callL fns (k + 1) 11 [Dd i, Dd i] [] = some (.d (.bool true), []) := by
  refine fnRun (fn := f__law_alike) rfl rfl ?_
  refine ifNo (h1 := []) (toBR rfl) (ifNo (h1 := []) (cmpR (h1 := []) (x := Dd i) (y := .d .none) rfl rfl rfl) (ifNo (h1 := []) (toBR rfl) (ifRet (h1 := []) (toBR rfl) (retR (ofTB (r := true) (and3 (h1 := []) (h2 := []) (toBR rfl) (notR (r := false) (toBR rfl)) (cmpR (h1 := []) (x := Dd i) (y := Dd i) rfl rfl ?_)))))))
  show some (i == i) = _
  simp
end Law

namespace Law
open PySem PySem.Spec L2 MP
def lBody : Ss := (.cons (.asg (.nm 3) (.ife (.cmp .gt (.call 9 (.cons (.v 1) (.cons (.c (.int 6)) .nil))) (.c (.int 0))) (.bin .mul (.call 9 (.cons (.v 1) (.cons (.c (.int 1000)) .nil))) (.call 10 (.cons (.v 1) (.cons (.fl (.disp (.cons (.c (.int 1)) (.cons (.c (.int 1)) (.cons (.c (.int 7)) (.cons (.c (.int 40)) .nil)))))) .nil)))) (.call 9 (.cons (.v 1) (.cons (.c (.int 4)) .nil))))) (.cons (.asg (.nm 4) (.call 10 (.cons (.v 1) (.cons (.fl (.disp (.cons (.c (.int 1)) (.cons (.neg (.c (.int 1))) .nil)))) .nil)))) (.cons (.asg (.nm 5) (.bin .add (.c (.int 2)) (.call 9 (.cons (.v 1) (.cons (.c (.int 14)) .nil))))) (.cons (.par (.cons (.nm 6) (.cons (.nm 7) (.cons (.nm 8) .nil))) (.cons (.callP 0 (.cons (.v 3) (.cons (.v 5) .nil))) (.cons (.callP 1 (.cons (.bin .mul (.v 3) (.v 4)) (.cons (.neg (.v 5)) .nil))) (.cons (.callP 2 (.cons (.bin .mul (.v 3) (.v 4)) .nil)) .nil)))) (.cons (.ife (.or_ (.not_ (.callP 12 (.cons (.v 6) (.cons (.c (.int 0)) (.cons (.v 5) .nil))))) (.cons (.cmp .ne (.callP 13 (.cons (.v 6) (.cons (.v 5) .nil))) (.v 3)) (.cons (.not_ (.callP 12 (.cons (.v 7) (.cons (.c (.int 0)) (.cons (.v 5) .nil))))) (.cons (.cmp .ne (.callP 13 (.cons (.v 7) (.cons (.neg (.v 5)) .nil))) (.bin .mul (.v 3) (.v 4))) .nil)))) (.cons (.ret (.c (.bool false))) .nil) .nil) (.cons (.ife (.or_ (.not_ (.callP 12 (.cons (.v 8) (.cons (.neg (.c (.int 1))) (.cons (.c (.int 2)) .nil))))) (.cons (.cmp .ne (.callP 13 (.cons (.v 8) (.cons (.c (.int 3)) .nil))) (.bin .mul (.v 3) (.v 4))) .nil)) (.cons (.ret (.c (.bool false))) .nil) .nil) (.cons (.asg (.nm 9) (.prim .tuple (.cons (.fl (.comp [11] (.bin .add (.c (.int 2)) (.call 9 (.cons (.v 1) (.cons (.c (.int 9)) .nil)))) (.nm 11) (.r1 (.call 9 (.cons (.v 1) (.cons (.c (.int 4)) .nil)))) .nop)) .nil))) (.cons (.ife (.or_ (.not_ (.callP 15 (.cons (.callP 3 (.cons (.v 3) (.cons (.v 9) .nil))) (.cons (.v 3) (.cons (.v 9) .nil))))) (.cons (.not_ (.callP 16 (.cons (.callP 4 (.cons (.v 3) .nil)) (.cons (.v 3) .nil)))) (.cons (.not_ (.callP 18 (.cons (.callP 6 (.cons (.v 3) .nil)) (.cons (.v 3) .nil)))) .nil))) (.cons (.ret (.c (.bool false))) .nil) .nil) (.cons (.asg (.nm 10) (.fl (.disp (.cons (.tup (.cons (.c (.str "plain")) (.cons (.v 6) (.cons (.v 5) (.cons (.v 3) .nil))))) (.cons (.tup (.cons (.c (.str "plain")) (.cons (.v 7) (.cons (.neg (.v 5)) (.cons (.bin .mul (.v 3) (.v 4)) .nil))))) (.cons (.tup (.cons (.c (.str "balanced")) (.cons (.v 8) (.cons (.c .none) (.cons (.bin .mul (.v 3) (.v 4)) .nil))))) (.cons (.tup (.cons (.c (.str "factorials")) (.cons (.callP 4 (.cons (.v 3) .nil)) (.cons (.c .none) (.cons (.v 3) .nil))))) (.cons (.tup (.cons (.c (.str "two")) (.cons (.callP 6 (.cons (.v 3) .nil)) (.cons (.c .none) (.cons (.v 3) .nil))))) .nil)))))))) (.cons (.ife (.cmp .ne (.fl (.comp [12] (.v 12) (.nm 12) (.sq (.v 10)) (.not_ (.callP 11 (.cons (.callP 7 (.cons (.ix (.v 12) (.c (.int 0))) (.cons (.ix (.v 12) (.c (.int 1))) (.cons (.ix (.v 12) (.c (.int 2))) .nil)))) (.cons (.ix (.v 12) (.c (.int 3))) .nil)))))) (.fl (.disp .nil))) (.cons (.ret (.c (.bool false))) .nil) .nil) .nil))))))))))
def lRet : E := (.and_ (.callP 11 (.cons (.callP 0 (.cons (.c (.int 0)) (.cons (.c (.int 7)) .nil))) (.cons (.tup .nil) .nil))) (.cons (.callP 11 (.cons (.callP 6 (.cons (.c (.int 4)) .nil)) (.cons (.tup (.cons (.c (.int 2)) (.cons (.c (.int 4)) .nil))) .nil))) (.cons (.callP 11 (.cons (.callP 1 (.cons (.neg (.c (.int 1))) (.cons (.neg (.c (.int 2))) .nil))) (.cons (.tup (.cons (.c (.int 1)) (.cons (.c (.int 1)) .nil))) .nil))) .nil)))
theorem nx (k : Nat) (ρ : Env') (ds : List Int) (a m : Int) (hρ : ρ[1]? = some (some (.r 0))) (ha : 0 ≤ a) (hm : 0 < m) :
    ∃ r : Int, ev (callL fns (k + 1)) (.call 9 (.cons (.v 1) (.cons (.c (.int m)) .nil))) ρ [wO ds a] = some (Dd r, [wO ds (a + 1)]) ∧ 0 ≤ r ∧ r < m := by
  obtain ⟨r, e, h1, h2⟩ := next_run k [wO ds a] 0 ds a m rfl ha hm
  refine ⟨r, callR (h1 := [wO ds a]) (ws := [.r 0, Dd m]) (evs2 (h1 := [wO ds a]) (x := .r 0) (y := Dd m) ?_ rfl) e, h1, h2⟩
  show cVar 1 ρ _ = _
  unfold cVar
  rw [hρ]
theorem pk (k : Nat) (ρ : Env') (ds : List Int) (a : Int) (rows : List Int) (re : E) (hρ : ρ[1]? = some (some (.r 0))) (ha : 0 ≤ a) (hr : rows ≠ []) (er : ev (callL fns (k + 2)) re ρ [wO ds a] = some (.d (.list (rows.map .int)), [wO ds a])) :
    ∃ x ∈ rows, ev (callL fns (k + 2)) (.call 10 (.cons (.v 1) (.cons re .nil))) ρ [wO ds a] = some (Dd x, [wO ds (a + 1)]) := by
  obtain ⟨x, hx, e⟩ := pick_run k [wO ds a] 0 ds a rows rfl ha hr
  refine ⟨x, hx, callR (h1 := [wO ds a]) (ws := [.r 0, .d (.list (rows.map .int))]) (evs2 (h1 := [wO ds a]) (x := .r 0) ?_ er) e⟩
  show cVar 1 ρ _ = _
  unfold cVar
  rw [hρ]
theorem compInv {g : Cg} {e : Cm} {ρ : Env'} (I : Hm → Prop) (V : Int → Prop) : ∀ (xs : List Vl) (h : Hm), I h → (∀ x ∈ xs, ∀ h, I h → ∃ ρ1 v h2, g x ρ h = some (ρ1, h) ∧ e ρ1 h = some (Dd v, h2) ∧ V v ∧ I h2) →
    ∃ (vs : List Int) (h' : Hm), compL g cYes e ρ xs h = some (vs.map Dd, h') ∧ I h' ∧ (∀ v ∈ vs, V v) ∧ vs.length = xs.length
  | [], h, hi, _ => ⟨[], h, rfl, hi, fun _ z => absurd z (by simp), rfl⟩
  | x :: xs, h, hi, st => by
    obtain ⟨ρ1, v, h2, e1, e2, hv, hi2⟩ := st x List.mem_cons_self h hi
    obtain ⟨vs, h', e3, hi3, hv3, hl⟩ := compInv I V xs h2 hi2 fun y hy => st y (List.mem_cons_of_mem _ hy)
    refine ⟨v :: vs, h', ?_, hi3, fun z hz => ?_, congrArg Nat.succ hl⟩
    · unfold compL
      rw [e1]
      simp only [cYes]
      rw [e2]
      simp only
      rw [e3]
      rfl
    · rcases List.mem_cons.mp hz with rfl | hz
      · exact hv
      · exact hv3 z hz
theorem alikeOkI (k : Nat) (i j : Int) (h : i = j) : callL fns (k + 1) 11 [Dd i, Dd j] [] = some (.d (.bool true), []) := by
  subst h
  exact alike_int k i
theorem evsC {C : Orc} {a : E} {as : Es} {ρ : Env'} {h h1 h2 : Hm} {x : Vl} {xs : List Vl} (e1 : ev C a ρ h = some (x, h1)) (e2 : evs C as ρ h1 = some (xs, h2)) : evs C (.cons a as) ρ h = some (x :: xs, h2) := by
  show cCons (ev C a) (evs C as) ρ h = _
  unfold cCons
  rw [e1]
  simp only
  rw [e2]
theorem tupR {C : Orc} {as : Es} {ρ : Env'} {h h1 : Hm} (xs : List PyData) (e : evs C as ρ h = some (xs.map .d, h1)) (hl : xs.length ≤ 16777216) : ev C (.tup as) ρ h = some (.d (.tuple xs), h1) := by
  show cTup (evs C as) ρ h = _
  unfold cTup
  rw [e]
  simp only [toDs_map]
  rw [if_pos (okLen_of hl)]
theorem flDispR {C : Orc} {as : Es} {ρ : Env'} {h h1 : Hm} (xs : List PyData) (e : evs C as ρ h = some (xs.map .d, h1)) (hl : xs.length ≤ 16777216) : ev C (.fl (.disp as)) ρ h = some (.d (.list xs), h1) := by
  refine flRun ?_
  show cDisp (evs C as) ρ h = _
  unfold cDisp
  rw [e]
  simp only
  rw [if_pos (okLen_of (by rw [List.length_map]; exact hl))]
theorem backOne (C : Orc) (ρ : Env') (H h' : Hm) (kd : Str) (dg bs : PyData) (v : Int) (hρ : ρ[12]? = some (some (.d (.tuple [.str kd, dg, bs, .int v])))) (e7 : C 7 [.d (.str kd), .d dg, .d bs] [] = some (Dd v, h')) (e11 : C 11 [Dd v, Dd v] [] = some (.d (.bool true), [])) :
    toB (ev C (.not_ (.callP 11 (.cons (.callP 7 (.cons (.ix (.v 12) (.c (.int 0))) (.cons (.ix (.v 12) (.c (.int 1))) (.cons (.ix (.v 12) (.c (.int 2))) .nil)))) (.cons (.ix (.v 12) (.c (.int 3))) .nil))))) ρ H = some (false, H) := by
  have ev12 : ev C (.v 12) ρ H = some (.d (.tuple [.str kd, dg, bs, .int v]), H) := by
    show cVar 12 ρ H = _
    unfold cVar
    rw [hρ]
  exact notR (r := true) (toBR (callPR (h1 := H) (ws := [Dd v, Dd v]) (evs2 (h1 := H) (x := Dd v) (callPR (h1 := H) (ws := [.d (.str kd), .d dg, .d bs]) (evs3 (h1 := H) (h2 := H) (ixR (h1 := H) (dy := .int 0) ev12 rfl rfl) (ixR (h1 := H) (dy := .int 1) ev12 rfl rfl) (ixR (h1 := H) (dy := .int 2) ev12 rfl rfl)) rfl e7) (ixR (h1 := H) (dy := .int 3) ev12 rfl rfl)) rfl e11))
theorem lBody_run (k : Nat) (ns ds : List Int) (a : Int) (y2 y3 y4 y5 y6 y7 y8 y9 y10 y11 y12 : Option Vl) (ha : 0 ≤ a) :
    ∃ (a' : Int) (z3 z4 z5 z6 z7 z8 z9 z10 z11 z12 : Option Vl), exs (callL fns (k + 4)) lBody [some (.s ns), some (.r 0), y2, y3, y4, y5, y6, y7, y8, y9, y10, y11, y12] [wO ds a] = some (.nx [some (.s ns), some (.r 0), y2, z3, z4, z5, z6, z7, z8, z9, z10, z11, z12], [wO ds a']) ∧ 0 ≤ a' := by
  -- n
  have sn : ∃ (n a1 : Int), ev (callL fns (k + 4)) (.ife (.cmp .gt (.call 9 (.cons (.v 1) (.cons (.c (.int 6)) .nil))) (.c (.int 0))) (.bin .mul (.call 9 (.cons (.v 1) (.cons (.c (.int 1000)) .nil))) (.call 10 (.cons (.v 1) (.cons (.fl (.disp (.cons (.c (.int 1)) (.cons (.c (.int 1)) (.cons (.c (.int 7)) (.cons (.c (.int 40)) .nil)))))) .nil)))) (.call 9 (.cons (.v 1) (.cons (.c (.int 4)) .nil)))) [some (.s ns), some (.r 0), y2, y3, y4, y5, y6, y7, y8, y9, y10, y11, y12] [wO ds a] = some (Dd n, [wO ds a1]) ∧ 0 ≤ a1 ∧ 0 ≤ n ∧ n ≤ 40000 := by
    obtain ⟨r, e1, h1, h2⟩ := nx (k + 3) [some (.s ns), some (.r 0), y2, y3, y4, y5, y6, y7, y8, y9, y10, y11, y12] ds a 6 rfl ha (by decide)
    by_cases hr : 0 < r
    · obtain ⟨q, e2, h3, h4⟩ := nx (k + 3) [some (.s ns), some (.r 0), y2, y3, y4, y5, y6, y7, y8, y9, y10, y11, y12] ds (a + 1) 1000 rfl (by omega) (by decide)
      obtain ⟨x, hx, e3⟩ := pk (k + 2) [some (.s ns), some (.r 0), y2, y3, y4, y5, y6, y7, y8, y9, y10, y11, y12] ds (a + 1 + 1) [1, 1, 7, 40] (.fl (.disp (.cons (.c (.int 1)) (.cons (.c (.int 1)) (.cons (.c (.int 7)) (.cons (.c (.int 40)) .nil)))))) rfl (by omega) (by simp) rfl
      have hx' : 0 ≤ x ∧ x ≤ 40 := by simp at hx; omega
      refine ⟨q * x, a + 1 + 1 + 1, iteR (h1 := [wO ds (a + 1)]) (r := true) (cmpR e1 rfl ?_) ?_, by omega, Int.mul_nonneg h3 hx'.1, ?_⟩
      · show some (decide (0 < r)) = _
        rw [decide_eq_true hr]
      · rw [if_pos rfl]
        exact mulR (h1 := [wO ds (a + 1 + 1)]) e2 e3 (.inl (by omega))
      · have := Int.mul_le_mul (show q ≤ 999 by omega) hx'.2 hx'.1 (by decide)
        omega
    · obtain ⟨q, e2, h3, h4⟩ := nx (k + 3) [some (.s ns), some (.r 0), y2, y3, y4, y5, y6, y7, y8, y9, y10, y11, y12] ds (a + 1) 4 rfl (by omega) (by decide)
      refine ⟨q, a + 1 + 1, iteR (h1 := [wO ds (a + 1)]) (r := false) (cmpR e1 rfl ?_) ?_, by omega, h3, by omega⟩
      · show some (decide (0 < r)) = _
        rw [decide_eq_false hr]
      · rw [if_neg (by decide)]
        exact e2
  obtain ⟨n, a1, en, ha1, hn0, hn1⟩ := sn
  obtain ⟨sg, hsg, es⟩ := pk (k + 2) [some (.s ns), some (.r 0), y2, some (Dd n), y4, y5, y6, y7, y8, y9, y10, y11, y12] ds a1 [1, -1] (.fl (.disp (.cons (.c (.int 1)) (.cons (.neg (.c (.int 1))) .nil)))) rfl ha1 (by simp) rfl
  have hs : sg = 1 ∨ sg = -1 := by simpa using hsg
  obtain ⟨bb, eb, hb0, hb1⟩ := nx (k + 3) [some (.s ns), some (.r 0), y2, some (Dd n), some (Dd sg), y5, y6, y7, y8, y9, y10, y11, y12] ds (a1 + 1) 14 rfl (by omega) (by decide)
  generalize hb : 2 + bb = b
  have hb2 : 2 ≤ b ∧ b ≤ 15 := by omega
  have hns : (n * sg).natAbs ≤ 40000 := by rcases hs with h | h <;> subst h <;> omega
  obtain ⟨p, ep, dp, lp⟩ := digs_run (k + 3) n b (.inl ⟨hb2.1, by omega, hn0⟩) (by omega)
  obtain ⟨t, et, dt, lt⟩ := below_run (k + 2) (n * sg) (-b) (by omega) (by omega)
  obtain ⟨th, eth, dth, lth⟩ := bal_run (k + 3) (n * sg) (by omega)
  obtain ⟨fa, efa, wfa, lfa⟩ := fac_run (k + 3) n ⟨hn0, by omega⟩
  obtain ⟨tw, htw, etw, wtw⟩ := byTwo_run (k + 2) n ⟨hn0, by omega⟩
  have ltw : tw.length ≤ 100001 := by
    rcases Two.len wtw.b wtw.g 2 (fun q hq => (wtw.b q hq).1) with h | h
    · subst h; simp
    · omega
  -- the bases
  obtain ⟨cn, ecn, hc0, hc1⟩ := nx (k + 3) [some (.s ns), some (.r 0), y2, some (Dd n), some (Dd sg), some (Dd b), some (.d (Tp p)), some (.d (Tp t)), some (.d (Tp th)), y9, y10, y11, y12] ds (a1 + 1 + 1) 4 rfl (by omega) (by decide)
  obtain ⟨ms, hms, ems, ⟨a3, rfl, ha3⟩, hmv, hml⟩ := compInv (g := evT (callL fns (k + 4)) (.nm 11)) (e := ev (callL fns (k + 4)) (.bin .add (.c (.int 2)) (.call 9 (.cons (.v 1) (.cons (.c (.int 9)) .nil))))) (ρ := wipeE [some (.s ns), some (.r 0), y2, some (Dd n), some (Dd sg), some (Dd b), some (.d (Tp p)), some (.d (Tp t)), some (.d (Tp th)), y9, y10, y11, y12] [11]) (fun h => ∃ a, h = [wO ds a] ∧ 0 ≤ a) (fun v => 2 ≤ v ∧ v ≤ 100) (rngL 0 cn.toNat) [wO ds (a1 + 1 + 1 + 1)] ⟨_, rfl, by omega⟩ (by
    rintro x hx h ⟨aa, rfl, haa⟩
    obtain ⟨j, hj, rfl⟩ := mem_rng hx
    obtain ⟨r, e, q1, q2⟩ := nx (k + 3) ((wipeE [some (.s ns), some (.r 0), y2, some (Dd n), some (Dd sg), some (Dd b), some (.d (Tp p)), some (.d (Tp t)), some (.d (Tp th)), y9, y10, y11, y12] [11]).set 11 (some (Dd (0 + (j : Int))))) ds aa 9 rfl haa (by decide)
    exact ⟨_, 2 + r, _, rfl, addR (h1 := [wO ds aa]) (i := 2) rfl e, by omega, _, rfl, by omega⟩)
  have eMs : ev (callL fns (k + 4)) (.prim .tuple (.cons (.fl (.comp [11] (.bin .add (.c (.int 2)) (.call 9 (.cons (.v 1) (.cons (.c (.int 9)) .nil)))) (.nm 11) (.r1 (.call 9 (.cons (.v 1) (.cons (.c (.int 4)) .nil)))) .nop)) .nil)) [some (.s ns), some (.r 0), y2, some (Dd n), some (Dd sg), some (Dd b), some (.d (Tp p)), some (.d (Tp t)), some (.d (Tp th)), y9, y10, y11, y12] [wO ds (a1 + 1 + 1)] = some (.d (Tp ms), [wO ds a3]) := by
    refine prim1 (x := .d (.list (ms.map .int))) (dx := .list (ms.map .int)) (flRun (compRun (r1R (j := cn.toNat) (by rw [Int.toNat_of_nonneg hc0]; exact ecn) (by omega)) (by rw [rng_len]; omega) ?_)) rfl rfl
    rw [List.map_map]
    exact ems
  have hml' : ms.length ≤ 1000 := by rw [hml, rng_len]; omega
  obtain ⟨q, dm, emx, hq0, hq1, wm⟩ := mixed_run (k + 3) n ms hn0 hmv hml'
  have emul : ∀ (ρ : Env') (h : Hm), ρ[3]? = some (some (Dd n)) → ρ[4]? = some (some (Dd sg)) → ev (callL fns (k + 4)) (.bin .mul (.v 3) (.v 4)) ρ h = some (Dd (n * sg), h) := fun ρ h q1 q2 => by
    refine mulR (h1 := h) (i := n) (j := sg) ?_ ?_ (.inl (by omega))
    · show cVar 3 ρ h = _
      unfold cVar
      rw [q1]
    · show cVar 4 ρ h = _
      unfold cVar
      rw [q2]
  -- the values said
  have c1 : toB (ev (callL fns (k + 4)) (.or_ (.not_ (.callP 12 (.cons (.v 6) (.cons (.c (.int 0)) (.cons (.v 5) .nil))))) (.cons (.cmp .ne (.callP 13 (.cons (.v 6) (.cons (.v 5) .nil))) (.v 3)) (.cons (.not_ (.callP 12 (.cons (.v 7) (.cons (.c (.int 0)) (.cons (.v 5) .nil))))) (.cons (.cmp .ne (.callP 13 (.cons (.v 7) (.cons (.neg (.v 5)) .nil))) (.bin .mul (.v 3) (.v 4))) .nil))))) [some (.s ns), some (.r 0), y2, some (Dd n), some (Dd sg), some (Dd b), some (.d (Tp p)), some (.d (Tp t)), some (.d (Tp th)), y9, y10, y11, y12] [wO ds (a1 + 1 + 1)] = some (false, [wO ds (a1 + 1 + 1)]) := by
    refine or4 (h1 := [wO ds (a1 + 1 + 1)]) (h2 := [wO ds (a1 + 1 + 1)]) (h3 := [wO ds (a1 + 1 + 1)]) (notR (r := true) (toBR (callPR (h' := []) (ws := [.d (Tp p), Dd 0, Dd b]) rfl rfl ?_))) (cmpR (x := Dd n) (y := Dd n) (callPR (h' := []) (ws := [.d (Tp p), Dd b]) rfl rfl ?_) rfl ?_) (notR (r := true) (toBR (callPR (h' := []) (ws := [.d (Tp t), Dd 0, Dd b]) rfl rfl ?_))) (cmpR (x := Dd (n * sg)) (y := Dd (n * sg)) (callPR (h' := []) (ws := [.d (Tp t), Dd (-b)]) rfl rfl ?_) (emul _ _ rfl rfl) ?_)
    · exact areDigits_run (k + 3) 0 b p (fun d hd => by have := dp.m d hd; omega) dp.h lp
    · rw [← dp.v]; exact value_run (k + 3) b p (by omega)
    · show some (!(n == n)) = _
      simp
    · exact areDigits_run (k + 3) 0 b t (fun d hd => by have := dt.m d hd; omega) dt.h lt
    · rw [← dt.v]; exact value_run (k + 3) (-b) t (by omega)
    · show some (!(n * sg == n * sg)) = _
      simp
  have c2 : toB (ev (callL fns (k + 4)) (.or_ (.not_ (.callP 12 (.cons (.v 8) (.cons (.neg (.c (.int 1))) (.cons (.c (.int 2)) .nil))))) (.cons (.cmp .ne (.callP 13 (.cons (.v 8) (.cons (.c (.int 3)) .nil))) (.bin .mul (.v 3) (.v 4))) .nil))) [some (.s ns), some (.r 0), y2, some (Dd n), some (Dd sg), some (Dd b), some (.d (Tp p)), some (.d (Tp t)), some (.d (Tp th)), y9, y10, y11, y12] [wO ds (a1 + 1 + 1)] = some (false, [wO ds (a1 + 1 + 1)]) := by
    refine or2 (h1 := [wO ds (a1 + 1 + 1)]) (notR (r := true) (toBR (callPR (h' := []) (ws := [.d (Tp th), Dd (-1), Dd 2]) rfl rfl ?_))) (cmpR (x := Dd (n * sg)) (y := Dd (n * sg)) (callPR (h' := []) (ws := [.d (Tp th), Dd 3]) rfl rfl ?_) (emul _ _ rfl rfl) ?_)
    · exact areDigits_run (k + 3) (-1) 2 th dth.m dth.h lth
    · rw [← dth.v]; exact value_run (k + 3) 3 th (by decide)
    · show some (!(n * sg == n * sg)) = _
      simp
  have c3 : toB (ev (callL fns (k + 4)) (.or_ (.not_ (.callP 15 (.cons (.callP 3 (.cons (.v 3) (.cons (.v 9) .nil))) (.cons (.v 3) (.cons (.v 9) .nil))))) (.cons (.not_ (.callP 16 (.cons (.callP 4 (.cons (.v 3) .nil)) (.cons (.v 3) .nil)))) (.cons (.not_ (.callP 18 (.cons (.callP 6 (.cons (.v 3) .nil)) (.cons (.v 3) .nil)))) .nil)))) [some (.s ns), some (.r 0), y2, some (Dd n), some (Dd sg), some (Dd b), some (.d (Tp p)), some (.d (Tp t)), some (.d (Tp th)), some (.d (Tp ms)), y10, y11, y12] [wO ds a3] = some (false, [wO ds a3]) := by
    refine or3 (h1 := [wO ds a3]) (h2 := [wO ds a3]) (notR (r := true) (toBR (callPR (h' := []) (ws := [.d (Tp (q :: dm)), Dd n, .d (Tp ms)]) (evs3 (h1 := [wO ds a3]) (h2 := [wO ds a3]) (callPR (ws := [Dd n, .d (Tp ms)]) rfl rfl emx) rfl rfl) rfl (isMixed_run (k + 2) n q ms dm hq0 (by omega) wm hmv hml')))) (notR (r := true) (toBR (callPR (h' := []) (ws := [.d (Tp fa), Dd n]) (evs2 (h1 := [wO ds a3]) (callPR (ws := [Dd n]) rfl rfl efa) rfl) rfl (isFac_run (k + 2) n fa wfa lfa)))) (notR (r := true) (toBR (callPR (h' := []) (ws := [.d (Tp tw), Dd n]) (evs2 (h1 := [wO ds a3]) (callPR (ws := [Dd n]) rfl rfl etw) rfl) rfl (isTwo_run (k + 2) n tw wtw ltw))))
  have e10 : ev (callL fns (k + 4)) (.fl (.disp (.cons (.tup (.cons (.c (.str "plain")) (.cons (.v 6) (.cons (.v 5) (.cons (.v 3) .nil))))) (.cons (.tup (.cons (.c (.str "plain")) (.cons (.v 7) (.cons (.neg (.v 5)) (.cons (.bin .mul (.v 3) (.v 4)) .nil))))) (.cons (.tup (.cons (.c (.str "balanced")) (.cons (.v 8) (.cons (.c .none) (.cons (.bin .mul (.v 3) (.v 4)) .nil))))) (.cons (.tup (.cons (.c (.str "factorials")) (.cons (.callP 4 (.cons (.v 3) .nil)) (.cons (.c .none) (.cons (.v 3) .nil))))) (.cons (.tup (.cons (.c (.str "two")) (.cons (.callP 6 (.cons (.v 3) .nil)) (.cons (.c .none) (.cons (.v 3) .nil))))) .nil))))))) [some (.s ns), some (.r 0), y2, some (Dd n), some (Dd sg), some (Dd b), some (.d (Tp p)), some (.d (Tp t)), some (.d (Tp th)), some (.d (Tp ms)), y10, y11, y12] [wO ds a3] = some (.d (.list [PyData.tuple [.str "plain", Tp p, .int b, .int n], .tuple [.str "plain", Tp t, .int (-b), .int (n * sg)], .tuple [.str "balanced", Tp th, .none, .int (n * sg)], .tuple [.str "factorials", Tp fa, .none, .int n], .tuple [.str "two", Tp tw, .none, .int n]]), [wO ds a3]) := by
    refine flDispR _ (evsC (h1 := [wO ds a3]) (x := .d (.tuple [.str "plain", Tp p, .int b, .int n])) rfl (evsC (h1 := [wO ds a3]) (x := .d (.tuple [.str "plain", Tp t, .int (-b), .int (n * sg)])) ?_ (evsC (h1 := [wO ds a3]) (x := .d (.tuple [.str "balanced", Tp th, .none, .int (n * sg)])) ?_ (evsC (h1 := [wO ds a3]) (x := .d (.tuple [.str "factorials", Tp fa, .none, .int n])) ?_ (evsC (h1 := [wO ds a3]) (x := .d (.tuple [.str "two", Tp tw, .none, .int n])) ?_ rfl))))) (by simp)
    · exact tupR [.str "plain", Tp t, .int (-b), .int (n * sg)] (evsC (h1 := [wO ds a3]) (x := .d (.str "plain")) rfl (evsC (h1 := [wO ds a3]) (x := .d (Tp t)) rfl (evsC (h1 := [wO ds a3]) (x := Dd (-b)) rfl (evsC (h1 := [wO ds a3]) (x := Dd (n * sg)) (emul _ _ rfl rfl) rfl)))) (by simp)
    · exact tupR [.str "balanced", Tp th, .none, .int (n * sg)] (evsC (h1 := [wO ds a3]) (x := .d (.str "balanced")) rfl (evsC (h1 := [wO ds a3]) (x := .d (Tp th)) rfl (evsC (h1 := [wO ds a3]) (x := .d .none) rfl (evsC (h1 := [wO ds a3]) (x := Dd (n * sg)) (emul _ _ rfl rfl) rfl)))) (by simp)
    · exact tupR [.str "factorials", Tp fa, .none, .int n] (evsC (h1 := [wO ds a3]) (x := .d (.str "factorials")) rfl (evsC (h1 := [wO ds a3]) (x := .d (Tp fa)) (callPR (ws := [Dd n]) rfl rfl efa) (evsC (h1 := [wO ds a3]) (x := .d .none) rfl (evsC (h1 := [wO ds a3]) (x := Dd n) rfl rfl)))) (by simp)
    · exact tupR [.str "two", Tp tw, .none, .int n] (evsC (h1 := [wO ds a3]) (x := .d (.str "two")) rfl (evsC (h1 := [wO ds a3]) (x := .d (Tp tw)) (callPR (ws := [Dd n]) rfl rfl etw) (evsC (h1 := [wO ds a3]) (x := .d .none) rfl (evsC (h1 := [wO ds a3]) (x := Dd n) rfl rfl)))) (by simp)
  obtain ⟨g1, f1⟩ := nb_plain (k + 3) b n _ _ p dp (by omega) lp
  obtain ⟨g2, f2⟩ := nb_plain (k + 3) (-b) (n * sg) _ _ t dt (by omega) lt
  obtain ⟨g3, f3⟩ := nb_bal (k + 3) (n * sg) _ _ th dth lth
  obtain ⟨g4, f4⟩ := nb_fac (k + 3) n fa wfa lfa
  obtain ⟨g5, f5⟩ := nb_two (k + 2) n tw wtw ltw
  have e11 : ev (callL fns (k + 4)) (.fl (.comp [12] (.v 12) (.nm 12) (.sq (.v 10)) (.not_ (.callP 11 (.cons (.callP 7 (.cons (.ix (.v 12) (.c (.int 0))) (.cons (.ix (.v 12) (.c (.int 1))) (.cons (.ix (.v 12) (.c (.int 2))) .nil)))) (.cons (.ix (.v 12) (.c (.int 3))) .nil)))))) [some (.s ns), some (.r 0), y2, some (Dd n), some (Dd sg), some (Dd b), some (.d (Tp p)), some (.d (Tp t)), some (.d (Tp th)), some (.d (Tp ms)), some (.d (.list [PyData.tuple [.str "plain", Tp p, .int b, .int n], .tuple [.str "plain", Tp t, .int (-b), .int (n * sg)], .tuple [.str "balanced", Tp th, .none, .int (n * sg)], .tuple [.str "factorials", Tp fa, .none, .int n], .tuple [.str "two", Tp tw, .none, .int n]])), y11, y12] [wO ds a3] = some (.d (.list []), [wO ds a3]) := by
    refine flRun (ds := []) (compRun (xs := ([PyData.tuple [.str "plain", Tp p, .int b, .int n], .tuple [.str "plain", Tp t, .int (-b), .int (n * sg)], .tuple [.str "balanced", Tp th, .none, .int (n * sg)], .tuple [.str "factorials", Tp fa, .none, .int n], .tuple [.str "two", Tp tw, .none, .int n]]).map .d) (h1 := [wO ds a3]) rfl (by simp) (compNone fun x hx => ?_))
    simp only [List.map_cons, List.map_nil, List.mem_cons, List.not_mem_nil, or_false] at hx
    rcases hx with rfl | rfl | rfl | rfl | rfl
    · exact ⟨_, rfl, backOne _ _ [wO ds a3] g1 _ _ _ n rfl f1 (alike_int _ _)⟩
    · exact ⟨_, rfl, backOne _ _ [wO ds a3] g2 _ _ _ (n * sg) rfl f2 (alike_int _ _)⟩
    · exact ⟨_, rfl, backOne _ _ [wO ds a3] g3 _ _ _ (n * sg) rfl f3 (alike_int _ _)⟩
    · exact ⟨_, rfl, backOne _ _ [wO ds a3] g4 _ _ _ n rfl f4 (alike_int _ _)⟩
    · exact ⟨_, rfl, backOne _ _ [wO ds a3] g5 _ _ _ n rfl f5 (alike_int _ _)⟩
  have eb2 : ev (callL fns (k + 4)) (.bin .add (.c (.int 2)) (.call 9 (.cons (.v 1) (.cons (.c (.int 14)) .nil)))) [some (.s ns), some (.r 0), y2, some (Dd n), some (Dd sg), y5, y6, y7, y8, y9, y10, y11, y12] [wO ds (a1 + 1)] = some (Dd b, [wO ds (a1 + 1 + 1)]) := by
    rw [← hb]
    exact addR (h1 := [wO ds (a1 + 1)]) (i := 2) rfl eb
  have epar : ex (callL fns (k + 4)) (.par (.cons (.nm 6) (.cons (.nm 7) (.cons (.nm 8) .nil))) (.cons (.callP 0 (.cons (.v 3) (.cons (.v 5) .nil))) (.cons (.callP 1 (.cons (.bin .mul (.v 3) (.v 4)) (.cons (.neg (.v 5)) .nil))) (.cons (.callP 2 (.cons (.bin .mul (.v 3) (.v 4)) .nil)) .nil)))) [some (.s ns), some (.r 0), y2, some (Dd n), some (Dd sg), some (Dd b), y6, y7, y8, y9, y10, y11, y12] [wO ds (a1 + 1 + 1)] = some (.nx [some (.s ns), some (.r 0), y2, some (Dd n), some (Dd sg), some (Dd b), some (.d (Tp p)), some (.d (Tp t)), some (.d (Tp th)), y9, y10, y11, y12], [wO ds (a1 + 1 + 1)]) := by
    have ev3 : evs (callL fns (k + 4)) (.cons (.callP 0 (.cons (.v 3) (.cons (.v 5) .nil))) (.cons (.callP 1 (.cons (.bin .mul (.v 3) (.v 4)) (.cons (.neg (.v 5)) .nil))) (.cons (.callP 2 (.cons (.bin .mul (.v 3) (.v 4)) .nil)) .nil))) [some (.s ns), some (.r 0), y2, some (Dd n), some (Dd sg), some (Dd b), y6, y7, y8, y9, y10, y11, y12] [wO ds (a1 + 1 + 1)] = some ([.d (Tp p), .d (Tp t), .d (Tp th)], [wO ds (a1 + 1 + 1)]) :=
      evs3 (h1 := [wO ds (a1 + 1 + 1)]) (h2 := [wO ds (a1 + 1 + 1)]) (callPR (ws := [Dd n, Dd b]) rfl rfl ep) (callPR (ws := [Dd (n * sg), Dd (-b)]) (evs2 (h1 := [wO ds (a1 + 1 + 1)]) (emul _ _ rfl rfl) rfl) rfl et) (callPR (ws := [Dd (n * sg)]) (evs1 (emul _ _ rfl rfl)) rfl eth)
    have q0 : ex (callL fns (k + 4)) (.par (.cons (.nm 6) (.cons (.nm 7) (.cons (.nm 8) .nil))) (.cons (.callP 0 (.cons (.v 3) (.cons (.v 5) .nil))) (.cons (.callP 1 (.cons (.bin .mul (.v 3) (.v 4)) (.cons (.neg (.v 5)) .nil))) (.cons (.callP 2 (.cons (.bin .mul (.v 3) (.v 4)) .nil)) .nil)))) = sPar (evTs (callL fns (k + 4)) (.cons (.nm 6) (.cons (.nm 7) (.cons (.nm 8) .nil)))) (evs (callL fns (k + 4)) (.cons (.callP 0 (.cons (.v 3) (.cons (.v 5) .nil))) (.cons (.callP 1 (.cons (.bin .mul (.v 3) (.v 4)) (.cons (.neg (.v 5)) .nil))) (.cons (.callP 2 (.cons (.bin .mul (.v 3) (.v 4)) .nil)) .nil)))) := rfl
    rw [q0]
    unfold sPar
    rw [ev3]
    rfl
  refine ⟨a3, some (Dd n), some (Dd sg), some (Dd b), some (.d (Tp p)), some (.d (Tp t)), some (.d (Tp th)), some (.d (Tp ms)), some (.d (.list [PyData.tuple [.str "plain", Tp p, .int b, .int n], .tuple [.str "plain", Tp t, .int (-b), .int (n * sg)], .tuple [.str "balanced", Tp th, .none, .int (n * sg)], .tuple [.str "factorials", Tp fa, .none, .int n], .tuple [.str "two", Tp tw, .none, .int n]])), y11, y12, ?_, ha3⟩
  refine setR en ?_
  show exs (callL fns (k + 4)) _ [some (.s ns), some (.r 0), y2, some (Dd n), y4, y5, y6, y7, y8, y9, y10, y11, y12] _ = _
  refine setR es ?_
  show exs (callL fns (k + 4)) _ [some (.s ns), some (.r 0), y2, some (Dd n), some (Dd sg), y5, y6, y7, y8, y9, y10, y11, y12] _ = _
  refine setR eb2 ?_
  show exs (callL fns (k + 4)) _ [some (.s ns), some (.r 0), y2, some (Dd n), some (Dd sg), some (Dd b), y6, y7, y8, y9, y10, y11, y12] _ = _
  refine stSeq epar (ifNo c1 (ifNo c2 (setR eMs ?_)))
  show exs (callL fns (k + 4)) _ [some (.s ns), some (.r 0), y2, some (Dd n), some (Dd sg), some (Dd b), some (.d (Tp p)), some (.d (Tp t)), some (.d (Tp th)), some (.d (Tp ms)), y10, y11, y12] _ = _
  refine ifNo c3 (setR e10 ?_)
  show exs (callL fns (k + 4)) _ [some (.s ns), some (.r 0), y2, some (Dd n), some (Dd sg), some (Dd b), some (.d (Tp p)), some (.d (Tp t)), some (.d (Tp th)), some (.d (Tp ms)), some (.d (.list [PyData.tuple [.str "plain", Tp p, .int b, .int n], .tuple [.str "plain", Tp t, .int (-b), .int (n * sg)], .tuple [.str "balanced", Tp th, .none, .int (n * sg)], .tuple [.str "factorials", Tp fa, .none, .int n], .tuple [.str "two", Tp tw, .none, .int n]])), y11, y12] _ = _
  exact ifNo (h1 := [wO ds a3]) (cmpR (h1 := [wO ds a3]) e11 (y := .d (.list [])) rfl rfl) rfl
end Law

namespace Law
open PySem PySem.Spec L2 MP
theorem l1 : callL fns 4 0 [Dd 0, Dd 7] [] = some (.d (.tuple []), []) := by kernel_rfl
theorem l2 : callL fns 4 6 [Dd 4] [] = some (.d (Tp [2, 4]), [.lst [Dd 1, Dd 2, Dd 3, Dd 5], .lst [Dd 4, Dd 2]]) := by kernel_rfl
theorem l3 : callL fns 4 1 [Dd (-1), Dd (-2)] [] = some (.d (Tp [1, 1]), []) := by kernel_rfl
theorem l4 : callL fns 4 11 [.d (.tuple []), .d (.tuple [])] [] = some (.d (.bool true), []) := by kernel_rfl
theorem l5 : callL fns 4 11 [.d (Tp [2, 4]), .d (Tp [2, 4])] [] = some (.d (.bool true), []) := by kernel_rfl
theorem l6 : callL fns 4 11 [.d (Tp [1, 1]), .d (Tp [1, 1])] [] = some (.d (.bool true), []) := by kernel_rfl
theorem lRet_run (ρ : Env') (h : Hm) : ev (callL fns 4) lRet ρ h = some (.d (.bool true), h) :=
  ofTB (r := true) (and3 (h1 := h) (h2 := h)
    (toBR (callPR (h1 := h) (ws := [.d (.tuple []), .d (.tuple [])]) (evs2 (h1 := h) (callPR (h1 := h) (ws := [Dd 0, Dd 7]) rfl rfl l1) rfl) rfl l4))
    (toBR (callPR (h1 := h) (ws := [.d (Tp [2, 4]), .d (Tp [2, 4])]) (evs2 (h1 := h) (callPR (h1 := h) (ws := [Dd 4]) rfl rfl l2) rfl) rfl l5))
    (toBR (callPR (h1 := h) (ws := [.d (Tp [1, 1]), .d (Tp [1, 1])]) (evs2 (h1 := h) (callPR (h1 := h) (ws := [Dd (-1), Dd (-2)]) rfl rfl l3) rfl) rfl l6)))
set_option profiler true
theorem law_e1 (C : Orc) (ns ds : List Int) (hd : Hm) (ed : C 8 [.s ns, Dd (200 : Nat)] [] = some (.d (.list (ds.map .int)), hd)) : ev (C) (.dic [.inr "draws", .inr "at"] (.cons (.callP 8 (.cons (.v 0) (.cons (.c (.int 200)) .nil))) (.cons (.c (.int 0)) .nil))) [some (.s ns), none, none, none, none, none, none, none, none, none, none, none, none] [] = some (.r 0, [wO ds 0]) := by
  have e2 : evs (C) (.cons (.callP 8 (.cons (.v 0) (.cons (.c (.int 200)) .nil))) (.cons (.c (.int 0)) .nil)) [some (.s ns), none, none, none, none, none, none, none, none, none, none, none, none] [] = some ([.d (.list (ds.map .int)), Dd 0], []) :=
    evs2 (h1 := []) (callPR (ws := [.s ns, Dd (200 : Nat)]) rfl rfl ed) rfl
  show cDic _ (evs (C) _) _ _ = _
  unfold cDic
  rw [e2]
  rfl
theorem law_loop (ns ds : List Int) : ∃ (ρ' : Env') (h' : Hm), iterF (evT (callL fns 4) (.nm 2)) (exs (callL fns 4) lBody) (rngL 0 7) [some (.s ns), some (.r 0), none, none, none, none, none, none, none, none, none, none, none] [wO ds 0] = some (.nx ρ', h') := by
  obtain ⟨ρ', h', e, _⟩ := forRun (g := evT (callL fns 4) (.nm 2)) (b := exs (callL fns 4) lBody)
    (fun i ρ h => ∃ (a : Int) (y2 y3 y4 y5 y6 y7 y8 y9 y10 y11 y12 : Option Vl), ρ = [some (.s ns), some (.r 0), y2, y3, y4, y5, y6, y7, y8, y9, y10, y11, y12] ∧ h = [wO ds a] ∧ 0 ≤ a)
    (rngL 0 7) 0 [some (.s ns), some (.r 0), none, none, none, none, none, none, none, none, none, none, none] [wO ds 0]
    ⟨0, none, none, none, none, none, none, none, none, none, none, none, rfl, rfl, Int.le_refl _⟩
    (by
      rintro j x ρ h hx ⟨a, y2, y3, y4, y5, y6, y7, y8, y9, y10, y11, y12, rfl, rfl, ha⟩
      obtain ⟨a', z3, z4, z5, z6, z7, z8, z9, z10, z11, z12, e, ha'⟩ := lBody_run 0 ns ds a (some x) y3 y4 y5 y6 y7 y8 y9 y10 y11 y12 ha
      exact ⟨_, _, rfl, _, _, .inl e, a', _, z3, z4, z5, z6, z7, z8, z9, z10, z11, z12, rfl, rfl, ha'⟩)
  exact ⟨ρ', h', e⟩
theorem law_body : f_law.body = .cons (.asg (.nm 1) (.dic [.inr "draws", .inr "at"] (.cons (.callP 8 (.cons (.v 0) (.cons (.c (.int 200)) .nil))) (.cons (.c (.int 0)) .nil)))) (.cons (.for_ (.nm 2) (.r1 (.c (.int 7))) lBody) (.cons (.ret lRet) .nil)) := rfl
theorem seven (ρ : Env') (h : Hm) : evI (callL fns 4) (.r1 (.c (.int 7))) ρ h = some (rngL 0 7, h) := r1R (j := 7) rfl (by decide)
theorem law_run (ns : List Int) (hn : ns.length ≤ 63) : ∃ h', callL fns 5 lawI [.s ns] [] = some (.d (.bool true), h') := by
  obtain ⟨ds, hd, ed⟩ := draws_run 3 ns 200 hn (by decide)
  obtain ⟨ρ', h', e⟩ := law_loop ns ds
  refine ⟨h', fnRun (fn := f_law) rfl rfl ?_⟩
  rw [law_body]
  exact setR (law_e1 _ ns ds hd ed) (forSeq (seven _ _) e (retR (lRet_run _ _)))
set_option profiler false
/-! ### the text -/
theorem facts {P : Program} {w : World} {K : PySem.W.Frag} {h : Heap} {mg : Str → Option Value} {f : Addr} (X : K.In h) (G : h.Ns mainGlobals mg) (hfa0 : mg ("law" : Str) = some (.ref f)) (c : He.SaysD hfa hfn K) :
    ∃ fd : FuncData, (∀ (s : Shared) (v : Value), BindsTo s fd ⟨[v], []⟩ [("script", v)]) ∧ ∀ base : Heap, K.In base → base.Ns mainGlobals mg → FnOk P w K mg base CX0 5 f fd ["script"] (spF K (callL fns 5) lawI) := by
  have at_ : ∀ (i : Nat) (t : FnT), ts[i]? = some t → ∃ f fd, DefAt K mg t f fd := fun i t ht => by
    have hfn' : hfn[i]? = some (dd 0 t) := by unfold hfn; rw [List.getElem?_map, ht]; rfl
    obtain ⟨fd, F⟩ := c.def_ i hfn'
    have hfa' : hfa[i]? = some (.glo t.name) := by
      unfold hfa
      have hl : i < (ts.map fun t => He.Fa.glo t.name).length := by rw [List.length_map]; exact (List.getElem?_eq_some_iff.mp ht).1
      rw [List.getElem?_append_left hl, List.getElem?_map, ht]
      rfl
    have mgf := He.glo_ok X G (c.fact i hfa')
    exact ⟨_, fd, F, mgf, F.bindsN (b_all t (List.mem_of_getElem? ht))⟩
  have hfr : ∀ x, fr.contains x = true → mg x = none := fun x hx => by
    have hx : x ∈ fr := by simpa using hx
    obtain ⟨j, hj⟩ := List.getElem?_of_mem hx
    have : hfa[ts.length + j]? = some (.free x) := by
      unfold hfa
      rw [List.getElem?_append_right (by rw [List.length_map]; omega), List.length_map, Nat.add_sub_cancel_left, List.getElem?_map, hj]
      rfl
    exact He.free_ok X G (c.fact _ this)
  obtain ⟨f', fd, da⟩ := at_ lawI t_law rfl
  have e : f = f' := by
    have := hfa0.symm.trans (show mg ("law" : Str) = some (.ref f') from da.mg)
    cases this
    rfl
  subst e
  have b := FunD.bindsA (ps := ["script"]) da.fun_ (b_all t_law (List.mem_of_getElem? (show ts[lawI]? = some t_law from rfl)))
  refine ⟨fd, fun s v => b s [v] rfl, fun base _ _ => ?_⟩
  exact fn_all at_ hfr (fun t ht => List.all_eq_true.mp ok_all t ht) 5 lawI t_law f fd rfl da
theorem law_sp {K : PySem.W.Frag} (H : Hp) (a : Addr) (ns : List Int) (hl : ns.length ≤ 63) (hS : SqL K H a (ns.map V.int)) : spF K (callL fns 5) lawI [.ref a] H (fun v _ => v = .bl true) (fun _ _ _ => False) := by
  obtain ⟨h', e⟩ := law_run ns hl
  let g0 : G := ⟨fun _ => False, [], []⟩
  have no : ∀ x, ¬ g0.own x := fun x z => by
    rcases z with z | ⟨n, o, z, _⟩
    · exact z
    · exact absurd z (by simp [g0])
  refine ⟨g0, [.s ns], .d (.bool true), h', .cons (.s ?_) .nil, ⟨rfl, List.nodup_nil, fun n o a h _ => absurd h (by simp [g0]), fun a z => z.elim, fun a z => z.elim⟩, e, fun g' v H' _ _ _ vr => ?_⟩
  · rcases hS with h | h
    · exact .inl ⟨h, no a⟩
    · exact .inr (.inr h)
  · cases vr with
    | d vr => cases vr; rfl
end Law

open PySem PySem.W PySem.Calls PyProof.Rows
theorem PySem.Challenge.cw_numberstead_k73_digits_of_numbers_holds : PySem.Challenge.rw_numberstead_k73_digits_of_numbers.Holds := by
  w_on; o_law
  refine HandSHeadRun.head_any (r := OpenLaw.row PySem.Challenge.rw_numberstead_k73_digits_of_numbers) (q := view (OpenLaw.row PySem.Challenge.rw_numberstead_k73_digits_of_numbers).prog [21]) (H := Law.hk) (ob := Law.ob) (M := 2000) (loose := Law.loose) (d := HandSHeadRun.topDef (OpenLaw.row PySem.Challenge.rw_numberstead_k73_digits_of_numbers).prog 21) (kwd := []) Law.ob_eq
    (by kernel_rfl) (fun s => by kernel_rfl) Law.run (by kernel_rfl) (by kernel_rfl) (by kernel_rfl) (by rfl) (by first | assumption | decide +kernel) (by decide +kernel) ⟨rfl, rfl, rfl, rfl, rfl, by decide +kernel⟩ ?hw ?hc
  case hw => w_witness2
  case hc =>
    refine L2.walk_ofE (l := PySem.Challenge.rw_numberstead_k73_digits_of_numbers) (n := 63) (k := 5) (x := "script") (CX := L2.CX0) rfl (by decide) (by kernel_rfl) ⟨rfl, by decide, by decide⟩ ?F (fun _ _ _ _ z => z)
    intro w mg fa h Y G hmg0
    obtain ⟨K, KX, c⟩ := Y
    have hmg : mg ("law" : PySem.Str) = some (.ref fa) := by
      have e : (HandSHeadRun.topDef (OpenLaw.row PySem.Challenge.rw_numberstead_k73_digits_of_numbers).prog 21).name = ("law" : PySem.Str) := by kernel_rfl
      rw [← e]
      exact hmg0
    obtain ⟨fd, hb, hF⟩ := Law.facts (P := (PySem.Challenge.rw_numberstead_k73_digits_of_numbers).prog) (w := w) KX G hmg c
    exact ⟨K, fd, _, KX, hb, fun H a ns hl _ hS => Law.law_sp H a ns hl hS, hF⟩
