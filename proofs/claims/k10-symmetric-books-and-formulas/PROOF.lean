import PyProof.Rows.All
import Wide.All
import OpenK.AllK
import Wide.FinOn
import HandS.ForMost
import HandS.ForExc
import HandS.Wide
import HandS.WideBits
import HandS.Flow
import HandS.Gcd
import HandS.ExcInit
import HandS.ExcField
import HandS.HotCalls
import HandS.Text
import HandS.TupLe
import HandS.TupMul
import HandS.Deep
import HandS.TupAny
import HandS.IsInst
import HandS.Small
import HandS.DictComp
import KE.GoesNew
import KE.GoesEnum
import KE.GoesMore
import HandS.FStr
import HandS.SortKw
import KE.DatumOrd
import HandS.SortRule
import HandS.ListItems
import KE.KDictList
import KE.KDictCopyH
import KE.DataAny
import HandS.Rev
import HandS.RevRange
import HandS.Conv
import HandS.More
import HandS.Style
import HandS.StrMore
import HandS.SortInts
import HandS.Strs
import HandS.EndBits
import KE.KBits
import KE.OsArith
import KE.IntBitsLaws
import PySem.Challenge.RW_everrebuilt_k10_symmetric_books_and_form
set_option Elab.async false
set_option linter.all false
set_option maxRecDepth 100000
set_option maxHeartbeats 4000000
/-! Zd 1: values with their tuples, a partial memory, and how both lie in the hand layer's heap. -/
namespace Zd
open PySem PySem.Spec PyProof.Rows L2

inductive PV where
  | non | bl (b : Bool) | int (i : Int) | str (x : Str) | tup (xs : List PV) | ref (a : Addr) | ty (n : String) | fl (xs : List PV) | ftu (xs : List PV)

inductive MO where
  | lst (xs : List PV)
  | rol (xs : List PV)
  | dic (kvs : List (Key × PV))
  | abs (φ : Hp → Prop) (F : List Addr)
  | hid (a : Addr)

abbrev Tau := List (Option PV)
abbrev Mp := Addr → Option MO
abbrev ZX := Str → List (Str × PV) → Mp → Prop
abbrev ZQ := PV → Mp → Prop

/-- a list that nothing changes -/
def SqF (K : PySem.W.Frag) (H : Hp) (a : Addr) (xs : List V) : Prop :=
  (∃ o, H a = some (.frz o (.lst xs))) ∨
    ∃ (o : Obj) (its : Array Value) (n : Nat), K.lookup a = some o ∧ o.cls = .type "list" ∧ o.dict = none ∧ o.data = .seq its n ∧ its.size ≤ sizeLine ∧ Vals xs its.toList
theorem SqF.sq {K : PySem.W.Frag} {H : Hp} {a : Addr} {xs : List V} (h : SqF K H a xs) : SqL K H a xs := by
  rcases h with h | h
  · exact .inl (.inr h)
  · exact .inr h
/-- a tuple of which it is known that it has no own names (a method may be called on it) -/
def SqN (H : Hp) (a : Addr) (xs : List V) : Prop := ∃ o : Obj, H a = some (.frz o (.tup xs)) ∧ o.cls = .type "tuple" ∧ o.dict = none
theorem SqN.sq {K : PySem.W.Frag} {H : Hp} {a : Addr} {xs : List V} (h : SqN H a xs) : SqT K H a xs := by
  obtain ⟨o, h, _⟩ := h
  exact .inl (.inr ⟨o, h⟩)
mutual
def R (K : PySem.W.Frag) (H : Hp) : PV → V → Prop
  | .non, v => v = .non
  | .bl b, v => v = .bl b
  | .int i, v => v = .int i
  | .str x, v => v = .str x
  | .tup xs, v => ∃ a vs, v = .ref a ∧ SqT K H a vs ∧ Rs K H xs vs
  | .ref a, v => v = .ref a
  | .ty n, v => v = .ty n
  | .fl xs, v => ∃ a vs, v = .ref a ∧ SqF K H a vs ∧ Rs K H xs vs
  | .ftu xs, v => ∃ a vs, v = .ref a ∧ SqN H a vs ∧ Rs K H xs vs
def Rs (K : PySem.W.Frag) (H : Hp) : List PV → List V → Prop
  | [], vs => vs = []
  | x :: xs, vs => ∃ v ws, vs = v :: ws ∧ R K H x v ∧ Rs K H xs ws
end

structure Le (H H' : Hp) : Prop where
  tup : ∀ a xs, H a = some (.tup xs) → H' a = some (.tup xs)
  frz : ∀ a o u, H a = some (.frz o u) → H' a = some (.frz o u)
theorem Le.refl {H : Hp} : Le H H := ⟨fun _ _ h => h, fun _ _ _ h => h⟩
theorem Le.trans {H H1 H2 : Hp} (a : Le H H1) (b : Le H1 H2) : Le H H2 :=
  ⟨fun _ _ h => b.tup _ _ (a.tup _ _ h), fun _ _ _ h => b.frz _ _ _ (a.frz _ _ _ h)⟩
theorem Le.new {H : Hp} {p : Addr} {o : HO} (h : H p = none) : Le H (upd H p o) :=
  ⟨fun a xs e => by rw [upd_ne (ne_of_none e h)]; exact e, fun a o u e => by rw [upd_ne (ne_of_none e h)]; exact e⟩
theorem Le.lst {H : Hp} {p : Addr} {o : HO} {xs : List V} (h : H p = some (.lst xs)) : Le H (upd H p o) :=
  ⟨fun a ys e => by
    have n : a ≠ p := fun z => by subst z; rw [h] at e; cases e
    rw [upd_ne n]; exact e, fun a o u e => by
    have n : a ≠ p := fun z => by subst z; rw [h] at e; cases e
    rw [upd_ne n]; exact e⟩
theorem Le.dK {H : Hp} {p : Addr} {o : HO} {xs : List (Key × V)} (h : H p = some (.dK xs)) : Le H (upd H p o) :=
  ⟨fun a ys e => by
    have n : a ≠ p := fun z => by subst z; rw [h] at e; cases e
    rw [upd_ne n]; exact e, fun a o u e => by
    have n : a ≠ p := fun z => by subst z; rw [h] at e; cases e
    rw [upd_ne n]; exact e⟩

theorem SqT.mono {K : PySem.W.Frag} {H H' : Hp} {a : Addr} {xs : List V} (l : Le H H') (h : SqT K H a xs) : SqT K H' a xs := by
  rcases h with (h | ⟨o, h⟩) | h
  · exact .inl (.inl (l.tup _ _ h))
  · exact .inl (.inr ⟨o, l.frz _ _ _ h⟩)
  · exact .inr h

mutual
theorem R.mono {K : PySem.W.Frag} {H H' : Hp} (l : Le H H') : ∀ (x : PV) (v : V), R K H x v → R K H' x v
  | .non, _, h => h
  | .bl _, _, h => h
  | .int _, _, h => h
  | .str _, _, h => h
  | .ref _, _, h => h
  | .ty _, _, h => h
  | .tup xs, v, h => by
    obtain ⟨a, vs, e, s, r⟩ := h
    exact ⟨a, vs, e, SqT.mono l s, Rs.mono l xs vs r⟩
  | .fl xs, v, h => by
    obtain ⟨a, vs, e, s, r⟩ := h
    refine ⟨a, vs, e, ?_, Rs.mono l xs vs r⟩
    rcases s with ⟨o, s⟩ | s
    · exact .inl ⟨o, l.frz _ _ _ s⟩
    · exact .inr s
  | .ftu xs, v, h => by
    obtain ⟨a, vs, e, ⟨o, s, h1, h2⟩, r⟩ := h
    exact ⟨a, vs, e, ⟨o, l.frz _ _ _ s, h1, h2⟩, Rs.mono l xs vs r⟩
theorem Rs.mono {K : PySem.W.Frag} {H H' : Hp} (l : Le H H') : ∀ (xs : List PV) (vs : List V), Rs K H xs vs → Rs K H' xs vs
  | [], _, h => h
  | x :: xs, vs, h => by
    obtain ⟨v, ws, e, r, rs⟩ := h
    exact ⟨v, ws, e, R.mono l x v r, Rs.mono l xs ws rs⟩
end
mutual
/-- the same value, without the knowledge -/
def thaw : PV → PV
  | .ftu xs => .tup (thaws xs)
  | .tup xs => .tup (thaws xs)
  | .non => .non
  | .bl b => .bl b
  | .int i => .int i
  | .str x => .str x
  | .ref a => .ref a
  | .ty n => .ty n
  | .fl xs => .fl xs
def thaws : List PV → List PV
  | [] => []
  | x :: xs => thaw x :: thaws xs
end
mutual
theorem R.thaw {K : PySem.W.Frag} {H : Hp} : ∀ (x : PV) (v : V), R K H x v → R K H (Zd.thaw x) v
  | .non, _, h => h
  | .bl _, _, h => h
  | .int _, _, h => h
  | .str _, _, h => h
  | .ref _, _, h => h
  | .ty _, _, h => h
  | .fl _, _, h => h
  | .tup xs, v, h => by
    obtain ⟨a, vs, e, s, r⟩ := h
    exact ⟨a, vs, e, s, Rs.thaw xs vs r⟩
  | .ftu xs, v, h => by
    obtain ⟨a, vs, e, s, r⟩ := h
    exact ⟨a, vs, e, s.sq, Rs.thaw xs vs r⟩
theorem Rs.thaw {K : PySem.W.Frag} {H : Hp} : ∀ (xs : List PV) (vs : List V), Rs K H xs vs → Rs K H (thaws xs) vs
  | [], _, h => h
  | x :: xs, vs, h => by
    obtain ⟨v, ws, e, r, rs⟩ := h
    exact ⟨v, ws, e, R.thaw x v r, Rs.thaw xs ws rs⟩
end
section
variable {K : PySem.W.Frag} {H : Hp}
theorem Rs.length : ∀ {xs : List PV} {vs : List V}, Rs K H xs vs → vs.length = xs.length
  | [], _, h => by have e : _ = [] := h; rw [e]; rfl
  | x :: xs, vs, h => by
    obtain ⟨v, ws, rfl, _, r⟩ := h
    rw [List.length_cons, List.length_cons, Rs.length r]
theorem Rs.get : ∀ {xs : List PV} {vs : List V} {i : Nat} {x : PV}, Rs K H xs vs → xs[i]? = some x → ∃ v, vs[i]? = some v ∧ R K H x v
  | [], _, _, _, _, e => by simp at e
  | x :: xs, _, 0, y, h, e => by
    obtain ⟨v, ws, rfl, r, _⟩ := h
    simp at e; subst e
    exact ⟨v, rfl, r⟩
  | x :: xs, _, i + 1, y, h, e => by
    obtain ⟨v, ws, rfl, _, r⟩ := h
    obtain ⟨u, h1, h2⟩ := Rs.get (i := i) r (by simpa using e)
    exact ⟨u, by simpa using h1, h2⟩
theorem Rs.getV : ∀ {xs : List PV} {vs : List V} {i : Nat} {v : V}, Rs K H xs vs → vs[i]? = some v → ∃ x, xs[i]? = some x ∧ R K H x v
  | [], _, i, v, h, e => by
    have z : _ = [] := h
    rw [z] at e; simp at e
  | x :: xs, _, 0, y, h, e => by
    obtain ⟨v, ws, rfl, r, _⟩ := h
    simp at e; subst e
    exact ⟨x, rfl, r⟩
  | x :: xs, _, i + 1, y, h, e => by
    obtain ⟨v, ws, rfl, _, r⟩ := h
    obtain ⟨u, h1, h2⟩ := Rs.getV (i := i) r (by simpa using e)
    exact ⟨u, by simpa using h1, h2⟩
theorem Rs.nil : Rs K H [] [] := rfl
theorem Rs.cons {x : PV} {v : V} {xs : List PV} {vs : List V} (h : R K H x v) (t : Rs K H xs vs) : Rs K H (x :: xs) (v :: vs) := ⟨v, vs, rfl, h, t⟩
theorem Rs.append : ∀ {xs ys : List PV} {vs ws : List V}, Rs K H xs vs → Rs K H ys ws → Rs K H (xs ++ ys) (vs ++ ws)
  | [], _, _, _, h, t => by have e : _ = [] := h; rw [e]; exact t
  | x :: xs, _, _, _, h, t => by
    obtain ⟨v, us, rfl, r, rs⟩ := h
    exact ⟨v, _, rfl, r, Rs.append rs t⟩
theorem Rs.one {x : PV} {v : V} (h : R K H x v) : Rs K H [x] [v] := Rs.cons h Rs.nil
theorem Rs.drop : ∀ {xs : List PV} {vs : List V} (n : Nat), Rs K H xs vs → Rs K H (xs.drop n) (vs.drop n)
  | _, _, 0, h => h
  | [], _, _ + 1, h => by have e : _ = [] := h; rw [e]; rfl
  | x :: xs, _, n + 1, h => by
    obtain ⟨v, us, rfl, r, rs⟩ := h
    exact Rs.drop n rs
theorem Rs.take : ∀ {xs : List PV} {vs : List V} (n : Nat), Rs K H xs vs → Rs K H (xs.take n) (vs.take n)
  | _, _, 0, h => rfl
  | [], _, _ + 1, h => by have e : _ = [] := h; rw [e]; rfl
  | x :: xs, _, n + 1, h => by
    obtain ⟨v, us, rfl, r, rs⟩ := h
    exact Rs.cons r (Rs.take n rs)
theorem Rs.set {x : PV} {v : V} (r : R K H x v) : ∀ {xs : List PV} {vs : List V} (n : Nat), Rs K H xs vs → Rs K H (xs.set n x) (vs.set n v)
  | [], _, _, h => by have e : _ = [] := h; rw [e]; rfl
  | y :: xs, _, 0, h => by
    obtain ⟨w, us, rfl, q, rs⟩ := h
    exact Rs.cons r rs
  | y :: xs, _, n + 1, h => by
    obtain ⟨w, us, rfl, q, rs⟩ := h
    exact Rs.cons q (Rs.set r n rs)
theorem Rs.eraseIdx : ∀ {xs : List PV} {vs : List V} (n : Nat), Rs K H xs vs → Rs K H (xs.eraseIdx n) (vs.eraseIdx n)
  | [], _, _, h => by have e : _ = [] := h; rw [e]; rfl
  | y :: xs, _, 0, h => by
    obtain ⟨w, us, rfl, q, rs⟩ := h
    exact rs
  | y :: xs, _, n + 1, h => by
    obtain ⟨w, us, rfl, q, rs⟩ := h
    exact Rs.cons q (Rs.eraseIdx n rs)
theorem Rs.reverse : ∀ {xs : List PV} {vs : List V}, Rs K H xs vs → Rs K H xs.reverse vs.reverse
  | [], _, h => by have e : _ = [] := h; rw [e]; rfl
  | y :: xs, _, h => by
    obtain ⟨w, us, rfl, q, rs⟩ := h
    rw [List.reverse_cons, List.reverse_cons]
    exact Rs.append (Rs.reverse rs) (Rs.one q)
theorem Rs.dropLast : ∀ {xs : List PV} {vs : List V}, Rs K H xs vs → Rs K H xs.dropLast vs.dropLast := fun {xs vs} h => by
  rw [List.dropLast_eq_take, List.dropLast_eq_take, h.length]
  exact Rs.take _ h
theorem Rs.int : ∀ (ns : List Int), Rs K H (ns.map PV.int) (ns.map V.int)
  | [] => rfl
  | n :: r => Rs.cons rfl (Rs.int r)
theorem Rs.toInt : ∀ {ns : List Int} {vs : List V}, Rs K H (ns.map PV.int) vs → vs = ns.map V.int
  | [], _, h => h
  | n :: r, _, h => by
    obtain ⟨w, us, rfl, q, rs⟩ := h
    rw [Rs.toInt rs]
    have e : w = .int n := q
    rw [e]; rfl
theorem Rs.toStr : ∀ {ns : List Str} {vs : List V}, Rs K H (ns.map PV.str) vs → vs = ns.map V.str
  | [], _, h => h
  | n :: r, _, h => by
    obtain ⟨w, us, rfl, q, rs⟩ := h
    rw [Rs.toStr rs]
    have e : w = .str n := q
    rw [e]; rfl
theorem Rs.toBl : ∀ {ns : List Bool} {vs : List V}, Rs K H (ns.map PV.bl) vs → vs = ns.map V.bl
  | [], _, h => h
  | n :: r, _, h => by
    obtain ⟨w, us, rfl, q, rs⟩ := h
    rw [Rs.toBl rs]
    have e : w = .bl n := q
    rw [e]; rfl
theorem R.tupNew {xs : List PV} {vs : List V} {p : Addr} (r : Rs K H xs vs) (h : H p = none) : R K (upd H p (.tup vs)) (.tup xs) (.ref p) :=
  ⟨p, vs, rfl, .inl (.inl upd_same), Rs.mono (Le.new h) _ _ r⟩
end

def MOk (K : PySem.W.Frag) (H : Hp) (a : Addr) : MO → Prop
  | .lst xs => ∃ vs, H a = some (.lst vs) ∧ Rs K H xs vs
  | .rol xs => ∃ o vs, H a = some (.frz o (.lst vs)) ∧ Rs K H xs vs
  | .dic kvs => ∃ ws, H a = some (.dK ws) ∧ Paired (fun p q => p.1 = q.1 ∧ R K H p.2 q.2) kvs ws
  | .abs φ F => φ H ∧ a ∈ F ∧ H a ≠ none ∧ ∀ H1 H2, Le H1 H2 → (∀ b ∈ F, H2 b = H1 b) → φ H1 → φ H2
  | .hid _ => H a ≠ none

def isFree : MO → Bool
  | .abs _ _ => false
  | .hid _ => false
  | _ => true

structure SRm (K : PySem.W.Frag) (P : Hp) (H : Hp) (M : Mp) : Prop where
  ok : ∀ a o, M a = some o → MOk K H a o
  own : ∀ a φ F, M a = some (.abs φ F) → ∀ b ∈ F, b = a ∨ M b = some (.hid a)
  pin : ∀ a o, P a = some o → H a = some o ∧ M a = none

def SRt (K : PySem.W.Frag) (σ : L2.St) (H : Hp) (τ : Tau) : Prop :=
  σ.length = τ.length ∧ ∀ (i : Nat) (x : PV), τ[i]? = some (some x) → ∃ v, σ[i]? = some (some v) ∧ R K H x v
section
variable {K : PySem.W.Frag} {P H H' : Hp} {M : Mp} {σ : L2.St} {τ : Tau} {a p : Addr}
theorem SRt.mono (l : Le H H') (s : SRt K σ H τ) : SRt K σ H' τ := ⟨s.1, fun i x e => by
  obtain ⟨v, h1, h2⟩ := s.2 i x e
  exact ⟨v, h1, R.mono l _ _ h2⟩⟩
theorem SRt.set {i : Nat} {x : PV} {v : V} (s : SRt K σ H τ) (r : R K H x v) : SRt K (σ.set i (some v)) H (τ.set i (some x)) := by
  refine ⟨by rw [List.length_set, List.length_set]; exact s.1, fun j y e => ?_⟩
  by_cases hj : i = j
  · subst hj
    by_cases hl : i < τ.length
    · rw [List.getElem?_set_self hl] at e
      cases e
      exact ⟨v, by rw [List.getElem?_set_self (by rw [s.1]; exact hl)], r⟩
    · rw [List.set_eq_of_length_le (by omega)] at e
      rw [List.getElem?_eq_none (by omega)] at e
      cases e
  · rw [List.getElem?_set_ne hj] at e
    obtain ⟨w, h1, h2⟩ := s.2 j y e
    exact ⟨w, by rw [List.getElem?_set_ne hj]; exact h1, h2⟩
theorem SRt.get {i : Nat} {x : PV} (s : SRt K σ H τ) (e : τ[i]? = some (some x)) : ∃ v, σ[i]? = some (some v) ∧ R K H x v := s.2 i x e
theorem SRm.there {o : MO} (s : SRm K P H M) (e : M a = some o) : H a ≠ none := by
  have h := s.ok a o e
  cases o with
  | lst xs => obtain ⟨vs, h, _⟩ := h; rw [h]; exact fun z => nomatch z
  | rol xs => obtain ⟨o, vs, h, _⟩ := h; rw [h]; exact fun z => nomatch z
  | dic xs => obtain ⟨vs, h, _⟩ := h; rw [h]; exact fun z => nomatch z
  | abs φ F => exact h.2.2.1
  | hid b => exact h
theorem SRm.fresh (s : SRm K P H M) (e : H a = none) : M a = none := by
  cases q : M a with
  | none => rfl
  | some o => exact absurd e (s.there q)
theorem MOk.mono {o : MO} (l : Le H H') (k : H' a = H a) (kF : ∀ φ F, o = .abs φ F → ∀ b ∈ F, H' b = H b) (h : MOk K H a o) : MOk K H' a o := by
  cases o with
  | lst xs => obtain ⟨vs, h, r⟩ := h; exact ⟨vs, by rw [k, h], Rs.mono l _ _ r⟩
  | rol xs => obtain ⟨o, vs, h, r⟩ := h; exact ⟨o, vs, by rw [k, h], Rs.mono l _ _ r⟩
  | dic xs => obtain ⟨vs, h, r⟩ := h; exact ⟨vs, by rw [k, h], L2.Paired.mapP r fun p q z => ⟨z.1, R.mono l _ _ z.2⟩⟩
  | abs φ F => exact ⟨h.2.2.2 _ _ l (kF φ F rfl) h.1, h.2.1, by rw [k]; exact h.2.2.1, h.2.2.2⟩
  | hid b => exact (by rw [k]; exact h : H' a ≠ none)
/-- nothing that is remembered changes -/
theorem SRm.keep (s : SRm K P H M) (l : Le H H') (k : ∀ b, H b ≠ none → H' b = H b) : SRm K P H' M := ⟨fun a o e =>
  MOk.mono l (k a (s.there e)) (fun φ F z b hb => by
    subst z
    rcases s.own a φ F e b hb with rfl | q
    · exact k _ (s.there e)
    · exact k _ (s.there q)) (s.ok a o e), s.own, fun a o e => by
    obtain ⟨h, n⟩ := s.pin a o e
    exact ⟨by rw [k a (by rw [h]; exact fun z => nomatch z)]; exact h, n⟩⟩
def mu (M : Mp) (p : Addr) (o : MO) : Mp := fun b => if b = p then some o else M b
theorem mu_same {o : MO} : mu M p o p = some o := if_pos rfl
theorem mu_ne {o : MO} (h : a ≠ p) : mu M p o a = M a := if_neg h
/-- an object is new, or written -/
theorem SRm.put {o : HO} {m : MO} (s : SRm K P H M) (hp : M p = none ∧ H p = none ∨ ∃ m0, M p = some m0 ∧ isFree m0 = true) (l : Le H (upd H p o)) (fm : isFree m = true) (new : MOk K (upd H p o) p m) : SRm K P (upd H p o) (mu M p m) := by
  have nh : ∀ b, M p ≠ some (.hid b) := fun b z => by
    rcases hp with ⟨h, _⟩ | ⟨m0, h, f⟩
    · rw [h] at z; cases z
    · rw [h] at z; cases z; cases f
  have na : ∀ φ F, M p ≠ some (.abs φ F) := fun φ F z => by
    rcases hp with ⟨h, _⟩ | ⟨m0, h, f⟩
    · rw [h] at z; cases z
    · rw [h] at z; cases z; cases f
  refine ⟨fun a q e => ?_, fun a φ F e b hb => ?_, fun a o e => ?_⟩
  · by_cases ha : a = p
    · subst ha
      rw [mu_same] at e
      cases e
      exact new
    · rw [mu_ne ha] at e
      refine MOk.mono l (upd_ne ha) (fun φ F z b hb => ?_) (s.ok a q e)
      subst z
      rcases s.own a φ F e b hb with rfl | z
      · exact upd_ne ha
      · exact upd_ne fun y => by subst y; exact nh _ z
  · by_cases ha : a = p
    · subst ha
      rw [mu_same] at e
      cases e
      cases fm
    · rw [mu_ne ha] at e
      rcases s.own a φ F e b hb with h | z
      · exact .inl h
      · exact .inr (by rw [mu_ne fun y => by subst y; exact nh _ z]; exact z)
  · obtain ⟨h, n⟩ := s.pin a o e
    have ha : a ≠ p := fun z => by
      subst z
      rcases hp with ⟨_, h2⟩ | ⟨m0, h2, _⟩
      · rw [h] at h2; cases h2
      · rw [n] at h2; cases h2
    exact ⟨by rw [upd_ne ha]; exact h, by rw [mu_ne ha]; exact n⟩
/-- forgetting -/
theorem SRm.less {M' : Mp} (s : SRm K P H M) (h : ∀ a o, M' a = some o → M a = some o) (own : ∀ a φ F, M' a = some (.abs φ F) → ∀ b ∈ F, b = a ∨ M' b = some (.hid a)) : SRm K P H M' := ⟨fun a o e => s.ok a o (h a o e), own, fun a o e => by
    obtain ⟨h1, n⟩ := s.pin a o e
    refine ⟨h1, ?_⟩
    cases q : M' a with
    | none => rfl
    | some u => have := h a u q; rw [n] at this; cases this⟩
/-- M' is what is left of M -/
def Fg (M' M : Mp) : Prop := (∀ a o, M' a = some o → M a = some o) ∧ ∀ a b, M a = some (.hid b) → M' a = some (.hid b)
theorem Fg.refl : Fg M M := ⟨fun _ _ h => h, fun _ _ h => h⟩
theorem Fg.trans {M1 M2 : Mp} (h : Fg M1 M2) (h' : Fg M2 M) : Fg M1 M := ⟨fun a o e => h'.1 a o (h.1 a o e), fun a b e => h.2 a b (h'.2 a b e)⟩
theorem SRm.fg {M' : Mp} (s : SRm K P H M) (h : Fg M' M) : SRm K P H M' := s.less h.1 fun a φ F e b hb => by
  rcases s.own a φ F (h.1 _ _ e) b hb with z | z
  · exact .inl z
  · exact .inr (h.2 _ _ z)
def dropT (k : Tau → Mp → Prop) : Tau → Mp → Prop := fun τ M => ∃ M', Fg M' M ∧ k τ M'
/-- M' tells no more than M -/
def Sg (M' M : Mp) : Prop := ∀ (K : PySem.W.Frag) (P H : Hp), SRm K P H M → SRm K P H M'
theorem Fg.sg {M' : Mp} (h : Fg M' M) : Sg M' M := fun _ _ _ s => s.fg h
def dropQ (k : ZQ) : ZQ := fun r M => ∃ M', Sg M' M ∧ k r M'
theorem SRm.put_lst {vs ws : List V} {ys xs : List PV} (s : SRm K P H M) (e : M p = some (.lst xs)) (h : H p = some (.lst vs)) (r : Rs K H ys ws) : SRm K P (upd H p (.lst ws)) (mu M p (.lst ys)) :=
  s.put (.inr ⟨_, e, rfl⟩) (Le.lst h) rfl ⟨ws, upd_same, Rs.mono (Le.lst h) _ _ r⟩
theorem SRm.new_lst {ws : List V} {ys : List PV} (s : SRm K P H M) (h : H p = none) (r : Rs K H ys ws) : SRm K P (upd H p (.lst ws)) (mu M p (.lst ys)) :=
  s.put (.inl ⟨s.fresh h, h⟩) (Le.new h) rfl ⟨ws, upd_same, Rs.mono (Le.new h) _ _ r⟩
theorem SRm.new_tup {o : HO} (s : SRm K P H M) (h : H p = none) : SRm K P (upd H p o) M :=
  s.keep (Le.new h) fun b hb => upd_ne fun z => by subst z; exact hb h
theorem SRm.lst {xs : List PV} (s : SRm K P H M) (e : M p = some (.lst xs)) : ∃ vs, H p = some (.lst vs) ∧ Rs K H xs vs := s.ok p _ e
/-- a list that may be read -/
def lget (M : Mp) (p : Addr) : Option (List PV) := match M p with
  | some (.lst xs) => some xs
  | some (.rol xs) => some xs
  | _ => none
theorem SRm.lget {xs : List PV} (s : SRm K P H M) (e : lget M p = some xs) : ∃ vs, SqL K H p vs ∧ Rs K H xs vs := by
  unfold Zd.lget at e
  cases q : M p with
  | none => rw [q] at e; cases e
  | some o =>
    have h := s.ok p o q
    rw [q] at e
    cases o with
    | lst ys => cases e; obtain ⟨vs, h, r⟩ := h; exact ⟨vs, .inl (.inl h), r⟩
    | rol ys => cases e; obtain ⟨o, vs, h, r⟩ := h; exact ⟨vs, .inl (.inr ⟨o, h⟩), r⟩
    | dic _ => cases e
    | abs _ _ => cases e
    | hid _ => cases e
end
end Zd

set_option Elab.async false
set_option linter.all false
set_option maxRecDepth 100000
set_option maxHeartbeats 4000000
/-! Zd 2: the readings of the hand layer, lifted; operators by values. -/
namespace Zd
open PySem PySem.Spec PyProof.Rows L2

abbrev ZWe := ZX → Tau → Mp → ZQ → Prop
abbrev ZWt := ZX → Tau → Mp → (Bool → Mp → Prop) → Prop
abbrev ZWa := ZX → Tau → Mp → (List PV → Mp → Prop) → Prop
abbrev ZSp := List PV → Mp → ZQ → ZX → Prop
abbrev Gm := Str → Option Value

def Cont (K : PySem.W.Frag) (P : Hp) (H : Hp) (Q' : ZQ) (Q : VK) : Prop := ∀ v H' x M', Le H H' → SRm K P H' M' → R K H' x v → Q' x M' → Q v H'
def ContA (K : PySem.W.Frag) (P : Hp) (H : Hp) (Q' : List PV → Mp → Prop) (Q : List V → Hp → Prop) : Prop := ∀ vs H' xs M', Le H H' → SRm K P H' M' → Rs K H' xs vs → Q' xs M' → Q vs H'
def ContB (K : PySem.W.Frag) (P : Hp) (H : Hp) (Q' : Bool → Mp → Prop) (Q : Bool → Hp → Prop) : Prop := ∀ b H' M', Le H H' → SRm K P H' M' → Q' b M' → Q b H'
/-- an exception of the module's class c, with its fields -/
structure XRel (K : PySem.W.Frag) (mg : Gm) (P : Hp) (H : Hp) (M : Mp) (c : Str) (fs : List (Str × PV)) (cls : Value) (d : Option Addr) : Prop where
  cls : mg c = some cls
  dct : fs = [] ∨ ∃ dx ws, d = some dx ∧ H dx = some (.xd ws) ∧ (M dx = none ∧ P dx = none) ∧ ∀ f x, (f, x) ∈ fs → ∃ v, ws.lookup f = some v ∧ R K H x v
def Exl (K : PySem.W.Frag) (P : Hp) (mg : Gm) (W : L2.WX) (σ : L2.St) (H : Hp) (E : ZX) : Prop :=
  ∀ c fs M' cls d H', Le H H' → SRm K P H' M' → XRel K mg P H' M' c fs cls d → E c fs M' → W cls d σ H'
section
variable {K : PySem.W.Frag} {mg : Gm} {W : L2.WX} {σ : L2.St} {P H H' : Hp}
theorem Cont.mono {Q' : ZQ} {Q : VK} (l : Le H H') (c : Cont K P H Q' Q) : Cont K P H' Q' Q := fun v H2 x M' l2 => c v H2 x M' (l.trans l2)
theorem ContA.mono {Q' : List PV → Mp → Prop} {Q : List V → Hp → Prop} (l : Le H H') (c : ContA K P H Q' Q) : ContA K P H' Q' Q := fun v H2 x M' l2 => c v H2 x M' (l.trans l2)
theorem ContB.mono {Q' : Bool → Mp → Prop} {Q : Bool → Hp → Prop} (l : Le H H') (c : ContB K P H Q' Q) : ContB K P H' Q' Q := fun v H2 M' l2 => c v H2 M' (l.trans l2)
theorem Exl.mono {E : ZX} (l : Le H H') (c : Exl K P mg W σ H E) : Exl K P mg W σ H' E := fun a b M' d e H2 l2 => c a b M' d e H2 (l.trans l2)
theorem Cont.now {Q' : ZQ} {Q : VK} {v : V} {x : PV} {M : Mp} (c : Cont K P H Q' Q) (s : SRm K P H M) (r : R K H x v) (q : Q' x M) : Q v H := c v H x M Le.refl s r q
end
def lift (K : PySem.W.Frag) (mg : Gm) (W : L2.WX) (w : ZWe) : TE := fun σ H Q => ∃ P E τ M Q', SRt K σ H τ ∧ SRm K P H M ∧ w E τ M Q' ∧ Cont K P H Q' Q ∧ Exl K P mg W σ H E
def liftT (K : PySem.W.Frag) (mg : Gm) (W : L2.WX) (w : ZWt) : TT := fun σ H Q => ∃ P E τ M Q', SRt K σ H τ ∧ SRm K P H M ∧ w E τ M Q' ∧ ContB K P H Q' Q ∧ Exl K P mg W σ H E
def liftA (K : PySem.W.Frag) (mg : Gm) (W : L2.WX) (w : ZWa) : TA := fun σ H Q => ∃ P E τ M Q', SRt K σ H τ ∧ SRm K P H M ∧ w E τ M Q' ∧ ContA K P H Q' Q ∧ Exl K P mg W σ H E
abbrev WE (X : Cx) (W : L2.WX) (e : Expr) (w : ZWe) : Prop := PE X e (lift X.K X.mg W w)
abbrev WT (X : Cx) (W : L2.WX) (e : Expr) (w : ZWt) : Prop := PT X e (liftT X.K X.mg W w)
abbrev WA (X : Cx) (W : L2.WX) (es : List Expr) (w : ZWa) : Prop := PA X es (liftA X.K X.mg W w)
theorem PE.imp {X : Cx} {e : Expr} {t t' : TE} (h : PE X e t) (i : ∀ σ H Q, t' σ H Q → t σ H Q) : PE X e t' := ⟨fun pins s σ H Q I q => h.run pins s σ H Q I (i _ _ _ q)⟩
theorem PT.imp {X : Cx} {e : Expr} {t t' : TT} (h : PT X e t) (i : ∀ σ H Q, t' σ H Q → t σ H Q) : PT X e t' := ⟨fun pins s σ H Q I q => h.run pins s σ H Q I (i _ _ _ q)⟩
theorem PA.imp {X : Cx} {e : List Expr} {t t' : TA} (h : PA X e t) (i : ∀ σ H Q, t' σ H Q → t σ H Q) : PA X e t' := ⟨fun pos pins s σ H Q I q => h.run pos pins s σ H Q I (i _ _ _ q)⟩

section
variable {X : Cx} {W : L2.WX} {a b c e : Expr} {es rest : List Expr} {wa wb wc : ZWe} {ta tb : ZWt} {pos : Pos}
/-! ### plain expressions -/
theorem we_var {i : Nat} {x : Str} (h : PE X (.Name x pos) (tVar i)) : WE X W (.Name x pos) (fun _ τ M Q => match τ[i]? with
    | some (some y) => Q y M
    | _ => False) := PE.imp h fun σ H Q h => by
  obtain ⟨P, E, τ, M, Q', st, sm, hw, hc, _⟩ := h
  cases e : τ[i]? with
  | none => rw [e] at hw; exact hw.elim
  | some o =>
    rw [e] at hw
    cases o with
    | none => exact hw.elim
    | some y =>
      obtain ⟨v, h1, h2⟩ := st.2 i y e
      exact ⟨v, h1, hc.now sm h2 hw⟩
theorem we_con {v : V} {x : PV} (h : PE X e (tC v)) (r : ∀ H, R X.K H x v) : WE X W e (fun _ _ M Q => Q x M) := PE.imp h fun σ H Q h => by
  obtain ⟨P, E, τ, M, Q', st, sm, hw, hc, _⟩ := h
  exact hc.now sm (r H) hw
/-- two places, by values -/
def OpZ (K : PySem.W.Frag) (r : R2) (b : PV → PV → Mp → ZQ → Prop) : Prop :=
  ∀ {P : Hp} x y v u H M Q' Q, SRm K P H M → R K H x v → R K H y u → b x y M Q' → Cont K P H Q' Q → r v u H Q
theorem OpZ.or {K : PySem.W.Frag} {r r' : R2} {b b' c : PV → PV → Mp → ZQ → Prop} (h : OpZ K r b) (h' : OpZ K r' b') (hc : ∀ x y M Q, c x y M Q → b x y M Q ∨ b' x y M Q) : OpZ K (fun x y H Q => r x y H Q ∨ r' x y H Q) c :=
  fun x y v u H M Q' Q sm rx ry q k => (hc x y M Q' q).elim (fun q => .inl (h x y v u H M Q' Q sm rx ry q k)) fun q => .inr (h' x y v u H M Q' Q sm rx ry q k)
def wBin (f : PV → PV → Mp → ZQ → Prop) (wa wb : ZWe) : ZWe := fun E τ M Q => wa E τ M fun x M1 => wb E τ M1 fun y M2 => f x y M2 Q
theorem lift_bin {r : R2} {f : PV → PV → Mp → ZQ → Prop} (hz : OpZ X.K r f) {σ : L2.St} {H : Hp} {Q : VK} (h : lift X.K X.mg W (wBin f wa wb) σ H Q) : tOp r (lift X.K X.mg W wa) (lift X.K X.mg W wb) σ H Q := by
  obtain ⟨P, E, τ, M, Q', st, sm, hw, hc, hE⟩ := h
  refine ⟨P, E, τ, M, _, st, sm, hw, fun v H1 x M1 l1 sm1 r1 h1 => ?_, hE⟩
  refine ⟨P, E, τ, M1, _, st.mono l1, sm1, h1, fun u H2 y M2 l2 sm2 r2 h2 => ?_, hE.mono l1⟩
  exact hz x y v u H2 M2 Q' Q sm2 (R.mono l2 _ _ r1) r2 h2 (hc.mono (l1.trans l2))
theorem we_op {op : Operator} {r : R2} {f : PV → PV → Mp → ZQ → Prop} (ho : OpR X (binaryOp op) r) (hz : OpZ X.K r f) (ha : WE X W a wa) (hb : WE X W b wb) : WE X W (.BinOp a op b pos) (wBin f wa wb) :=
  PE.imp (pe_op ho ha hb) fun _ _ _ h => lift_bin hz h
theorem we_cmp {op : CmpOp} {r : R2} {f : PV → PV → Mp → ZQ → Prop} (ho : OpR X (compareOp op) r) (hz : OpZ X.K r f) (ha : WE X W a wa) (hb : WE X W b wb) (hm : behindInMarks op b = false) : WE X W (.Compare a [op] [b] pos) (wBin f wa wb) :=
  PE.imp (pe_cmpR ho ha hb hm) fun _ _ _ h => lift_bin hz h
def isBl (x : PV) (M : Mp) (Q : Bool → Mp → Prop) : Prop := match x with
  | .bl b => Q b M
  | _ => False
theorem isBl_of {x : PV} {M : Mp} {Q : Bool → Mp → Prop} (h : isBl x M Q) : ∃ b, x = .bl b ∧ Q b M := by
  cases x with
  | bl b => exact ⟨b, rfl, h⟩
  | _ => exact h.elim
def wBinT (f : PV → PV → Mp → ZQ → Prop) (wa wb : ZWe) : ZWt := fun E τ M Q => wa E τ M fun x M1 => wb E τ M1 fun y M2 => f x y M2 fun z M3 => isBl z M3 Q
theorem lift_bl {w : ZWe} {σ : L2.St} {H : Hp} {Q : Bool → Hp → Prop} (h : liftT X.K X.mg W (fun E τ M Q => w E τ M fun z M3 => isBl z M3 Q) σ H Q) : tTest (lift X.K X.mg W w) σ H Q := by
  obtain ⟨P, E, τ, M, Q', st, sm, hw, hc, hE⟩ := h
  refine ⟨P, E, τ, M, _, st, sm, hw, fun v H1 x M1 l1 sm1 r1 h1 => ?_, hE⟩
  obtain ⟨b, rfl, q⟩ := isBl_of h1
  exact ⟨b, r1, hc b H1 M1 l1 sm1 q⟩
theorem wt_cmp {op : CmpOp} {r : R2} {f : PV → PV → Mp → ZQ → Prop} (ho : OpR X (compareOp op) r) (hz : OpZ X.K r f) (ha : WE X W a wa) (hb : WE X W b wb) (hm : behindInMarks op b = false) : WT X W (.Compare a [op] [b] pos) (wBinT f wa wb) :=
  PT.imp (pt_cmpR ho ha hb hm) fun σ H Q h => by
    obtain ⟨v, q⟩ : ∃ u : Unit, tTest (lift X.K X.mg W (wBin f wa wb)) σ H Q := ⟨(), lift_bl (w := wBin f wa wb) h⟩
    exact lift_bin hz q
def wChn (f g : PV → PV → Mp → ZQ → Prop) (wa wb wc : ZWe) : ZWe := fun E τ M Q => wa E τ M fun x M1 => wb E τ M1 fun y M2 => f x y M2 fun z M3 => isBl z M3 fun k M4 => if k = true then wc E τ M4 (fun w' M5 => g y w' M5 Q) else Q (.bl false) M4
theorem lift_chn {r r' : R2} {f g : PV → PV → Mp → ZQ → Prop} (hz : OpZ X.K r f) (hz' : OpZ X.K r' g) {σ : L2.St} {H : Hp} {Q : VK} (h : lift X.K X.mg W (wChn f g wa wb wc) σ H Q) : tChain r r' (lift X.K X.mg W wa) (lift X.K X.mg W wb) (lift X.K X.mg W wc) σ H Q := by
  obtain ⟨P, E, τ, M, Q', st, sm, hw, hc, hE⟩ := h
  refine ⟨P, E, τ, M, _, st, sm, hw, fun v H1 x M1 l1 sm1 r1 h1 => ?_, hE⟩
  refine ⟨P, E, τ, M1, _, st.mono l1, sm1, h1, fun u H2 y M2 l2 sm2 r2 h2 => ?_, hE.mono l1⟩
  refine hz x y v u H2 M2 _ _ sm2 (R.mono l2 _ _ r1) r2 h2 fun z H3 zz M3 l3 sm3 r3 h3 => ?_
  obtain ⟨k, rfl, h4⟩ := isBl_of h3
  refine ⟨k, r3, ?_⟩
  cases k with
  | true =>
    rw [if_pos rfl] at h4 ⊢
    have l13 := (l1.trans l2).trans l3
    refine ⟨P, E, τ, M3, _, st.mono l13, sm3, h4, fun w5 H5 y5 M5 l5 sm5 r5 h5 => ?_, hE.mono l13⟩
    exact hz' y y5 u w5 H5 M5 Q' Q sm5 (R.mono (l3.trans l5) _ _ r2) r5 h5 (hc.mono (l13.trans l5))
  | false =>
    rw [if_neg (by decide)] at h4 ⊢
    exact (hc.mono ((l1.trans l2).trans l3)).now (x := .bl false) sm3 rfl h4
theorem we_chn {op op' : CmpOp} {r r' : R2} {f g : PV → PV → Mp → ZQ → Prop} (ho : OpR X (compareOp op) r) (hz : OpZ X.K r f) (ho' : OpR X (compareOp op') r') (hz' : OpZ X.K r' g) (ha : WE X W a wa) (hb : WE X W b wb) (hc : WE X W c wc)
    (hm : lastMarks [op, op'] [b, c] = false) : WE X W (.Compare a [op, op'] [b, c] pos) (wChn f g wa wb wc) :=
  PE.imp (pe_chain ho ho' ha hb hc hm) fun _ _ _ h => lift_chn hz hz' h
theorem wt_chn {op op' : CmpOp} {r r' : R2} {f g : PV → PV → Mp → ZQ → Prop} (ho : OpR X (compareOp op) r) (hz : OpZ X.K r f) (ho' : OpR X (compareOp op') r') (hz' : OpZ X.K r' g) (ha : WE X W a wa) (hb : WE X W b wb) (hc : WE X W c wc)
    (hm : lastMarks [op, op'] [b, c] = false) : WT X W (.Compare a [op, op'] [b, c] pos) (fun E τ M Q => wChn f g wa wb wc E τ M fun z M3 => isBl z M3 Q) :=
  PT.imp (pt_chain ho ho' ha hb hc hm) fun σ H Q h => by
    have q := lift_bl (w := wChn f g wa wb wc) h
    exact lift_chn hz hz' q
/-- one place -/
def UnZ (K : PySem.W.Frag) (r : V → Hp → VK → Prop) (f : PV → Mp → ZQ → Prop) : Prop := ∀ {P : Hp} x v H M Q' Q, SRm K P H M → R K H x v → f x M Q' → Cont K P H Q' Q → r v H Q
def wUn (f : PV → Mp → ZQ → Prop) (wa : ZWe) : ZWe := fun E τ M Q => wa E τ M fun x M1 => f x M1 Q
theorem lift_un {r : V → Hp → VK → Prop} {f : PV → Mp → ZQ → Prop} (hz : UnZ X.K r f) {σ : L2.St} {H : Hp} {Q : VK} (h : lift X.K X.mg W (wUn f wa) σ H Q) : (lift X.K X.mg W wa) σ H (fun v H1 => r v H1 Q) := by
  obtain ⟨P, E, τ, M, Q', st, sm, hw, hc, hE⟩ := h
  exact ⟨P, E, τ, M, _, st, sm, hw, fun v H1 x M1 l1 sm1 r1 h1 => hz x v H1 M1 Q' Q sm1 r1 h1 (hc.mono l1), hE⟩
theorem we_un {op : UnaryOp} {r : V → Hp → VK → Prop} {f : PV → Mp → ZQ → Prop} (ho : UnR X (unaryOp op) r) (hz : UnZ X.K r f) (ha : WE X W a wa) : WE X W (.UnaryOp op a pos) (wUn f wa) :=
  PE.imp (pe_un ho ha) fun _ _ _ h => lift_un hz h
/-! ### truth -/
def truP (x : PV) (M : Mp) (Q : Bool → Mp → Prop) : Prop := match x with
  | .non => Q false M
  | .bl b => Q b M
  | .int i => Q (i != 0) M
  | .str y => y.length ≤ sizeLine ∧ Q ((y.length : Int) != 0) M
  | .tup xs => Q (!xs.isEmpty) M
  | .ref p => match lget M p with
    | some xs => Q (!xs.isEmpty) M
    | none => match M p with
      | some (.dic kvs) => Q (!kvs.isEmpty) M
      | _ => False
  | .ty _ => False
  | .fl _ => False
  | .ftu _ => False
theorem Rs.isEmpty {K : PySem.W.Frag} {H : Hp} {xs : List PV} {vs : List V} (r : Rs K H xs vs) : (!vs.isEmpty) = !xs.isEmpty := by
  have h := r.length
  cases xs <;> cases vs <;> simp_all
theorem SRm.dic {K : PySem.W.Frag} {P H : Hp} {M : Mp} {p : Addr} {kvs : List (Key × PV)} (s : SRm K P H M) (e : M p = some (.dic kvs)) : ∃ ws, H p = some (.dK ws) ∧ Paired (fun p q => p.1 = q.1 ∧ R K H p.2 q.2) kvs ws := s.ok p _ e
theorem paired_len {α β : Type} {F : α → β → Prop} : ∀ {l : List α} {m : List β}, Paired F l m → l.length = m.length := fun h => h.length
theorem truP_of {K : PySem.W.Frag} {P H : Hp} {M : Mp} {x : PV} {v : V} {Q : Bool → Mp → Prop} (s : SRm K P H M) (r : R K H x v) (h : truP x M Q) : ∃ k, TruV K v H k ∧ Q k M := by
  cases x with
  | non => obtain rfl : v = .non := r; exact ⟨false, rfl, h⟩
  | bl b => obtain rfl : v = .bl b := r; exact ⟨b, rfl, h⟩
  | int i => obtain rfl : v = .int i := r; exact ⟨_, rfl, h⟩
  | str y => obtain rfl : v = .str y := r; exact ⟨_, ⟨h.1, rfl⟩, h.2⟩
  | tup xs =>
    obtain ⟨a, vs, rfl, q, rs⟩ := r
    exact ⟨_, .inr (.inl ⟨vs, q, rfl⟩), by rw [rs.isEmpty]; exact h⟩
  | ref p =>
    obtain rfl : v = .ref p := r
    dsimp only [truP] at h
    cases e : lget M p with
    | some xs =>
      rw [e] at h
      obtain ⟨vs, q, rs⟩ := s.lget e
      exact ⟨_, .inl ⟨vs, q, rfl⟩, by rw [rs.isEmpty]; exact h⟩
    | none =>
      rw [e] at h
      cases q : M p with
      | none => rw [q] at h; exact h.elim
      | some o =>
        rw [q] at h
        cases o with
        | dic kvs =>
          obtain ⟨ws, h1, h2⟩ := s.dic q
          refine ⟨_, .inr (.inr ⟨ws, h1, rfl⟩), ?_⟩
          have := paired_len h2
          have z : (!ws.isEmpty) = !kvs.isEmpty := by cases ws <;> cases kvs <;> simp_all
          rw [z]; exact h
        | _ => exact h.elim
  | fl _ => exact h.elim
  | ftu _ => exact h.elim
  | ty n => exact h.elim
theorem wt_val (ha : WE X W a wa) (he : ∀ whole, isTrue a X.env whole = (do let v ← whole; standAt a.pos; holding [v] (truthy v))) : WT X W a (fun E τ M Q => wa E τ M fun x M1 => truP x M1 Q) :=
  PT.imp (pt_truth ha he) fun σ H Q h => by
    obtain ⟨P, E, τ, M, Q', st, sm, hw, hc, hE⟩ := h
    refine ⟨P, E, τ, M, _, st, sm, hw, fun v H1 x M1 l1 sm1 r1 h1 => ?_, hE⟩
    obtain ⟨k, t, q⟩ := truP_of sm1 r1 h1
    exact ⟨k, t, hc k H1 M1 l1 sm1 q⟩
def wTand (ta tb : ZWt) : ZWt := fun E τ M Q => ta E τ M fun c M1 => if c = true then tb E τ M1 Q else Q false M1
def wTor (ta tb : ZWt) : ZWt := fun E τ M Q => ta E τ M fun c M1 => if c = true then Q true M1 else tb E τ M1 Q
structure WW (X : Cx) (W : L2.WX) (e : Expr) (w : ZWt) : Prop where
  run : PW X e (liftT X.K X.mg W w)
theorem PW.imp {X : Cx} {e : Expr} {t t' : TT} (h : PW X e t) (i : ∀ σ H Q, t' σ H Q → t σ H Q) : PW X e t' := ⟨fun wh pins s σ H Q I q => h.run wh pins s σ H Q I (i _ _ _ q)⟩
theorem ww_and1 (ha : WT X W a ta) : WW X W (.BoolOp .And [a] pos) ta := ⟨pw_and1 ha⟩
theorem ww_or1 (ha : WT X W a ta) : WW X W (.BoolOp .Or [a] pos) ta := ⟨pw_or1 ha⟩
theorem ww_and (ha : WT X W a ta) (hb : WW X W (.BoolOp .And (b :: rest) pos) tb) : WW X W (.BoolOp .And (a :: b :: rest) pos) (wTand ta tb) := ⟨PW.imp (pw_and ha hb.run) fun σ H Q h => by
  obtain ⟨P, E, τ, M, Q', st, sm, hw, hc, hE⟩ := h
  refine ⟨P, E, τ, M, _, st, sm, hw, fun k H1 M1 l1 sm1 h1 => ?_, hE⟩
  cases k with
  | true =>
    rw [if_pos rfl] at h1 ⊢
    exact ⟨P, E, τ, M1, Q', st.mono l1, sm1, h1, hc.mono l1, hE.mono l1⟩
  | false =>
    rw [if_neg (by decide)] at h1 ⊢
    exact hc _ _ _ l1 sm1 h1⟩
theorem ww_or (ha : WT X W a ta) (hb : WW X W (.BoolOp .Or (b :: rest) pos) tb) : WW X W (.BoolOp .Or (a :: b :: rest) pos) (wTor ta tb) := ⟨PW.imp (pw_or ha hb.run) fun σ H Q h => by
  obtain ⟨P, E, τ, M, Q', st, sm, hw, hc, hE⟩ := h
  refine ⟨P, E, τ, M, _, st, sm, hw, fun k H1 M1 l1 sm1 h1 => ?_, hE⟩
  cases k with
  | true =>
    rw [if_pos rfl] at h1 ⊢
    exact hc _ _ _ l1 sm1 h1
  | false =>
    rw [if_neg (by decide)] at h1 ⊢
    exact ⟨P, E, τ, M1, Q', st.mono l1, sm1, h1, hc.mono l1, hE.mono l1⟩⟩
theorem WW.wt {w : ZWt} (h : WW X W a w) : WT X W a w := h.run.pt
def wTnot (ta : ZWt) : ZWt := fun E τ M Q => ta E τ M fun c M1 => Q (!c) M1
theorem wt_not (ha : WT X W a ta) : WT X W (.UnaryOp .Not a pos) (wTnot ta) := PT.imp (pt_not ha) fun σ H Q h => by
  obtain ⟨P, E, τ, M, Q', st, sm, hw, hc, hE⟩ := h
  exact ⟨P, E, τ, M, _, st, sm, hw, fun k H1 M1 l1 sm1 h1 => hc _ _ _ l1 sm1 h1, hE⟩
/-! as values -/
def wOrV (wa wb : ZWe) : ZWe := fun E τ M Q => wa E τ M fun x M1 => truP x M1 fun k M2 => if k = true then Q x M2 else wb E τ M2 Q
def wAndV (wa wb : ZWe) : ZWe := fun E τ M Q => wa E τ M fun x M1 => truP x M1 fun k M2 => if k = true then wb E τ M2 Q else Q x M2
theorem we_or (ha : WE X W a wa) (hb : WE X W (.BoolOp .Or (b :: rest) pos) wb) : WE X W (.BoolOp .Or (a :: b :: rest) pos) (wOrV wa wb) := PE.imp (pe_orT ha hb) fun σ H Q h => by
  obtain ⟨P, E, τ, M, Q', st, sm, hw, hc, hE⟩ := h
  refine ⟨P, E, τ, M, _, st, sm, hw, fun v H1 x M1 l1 sm1 r1 h1 => ?_, hE⟩
  obtain ⟨k, t, q⟩ := truP_of sm1 r1 h1
  refine ⟨k, t, ?_⟩
  cases k with
  | true => rw [if_pos rfl] at q ⊢; exact hc _ _ _ _ l1 sm1 r1 q
  | false => rw [if_neg (by decide)] at q ⊢; exact ⟨P, E, τ, M1, Q', st.mono l1, sm1, q, hc.mono l1, hE.mono l1⟩
theorem we_and (ha : WE X W a wa) (hb : WE X W (.BoolOp .And (b :: rest) pos) wb) : WE X W (.BoolOp .And (a :: b :: rest) pos) (wAndV wa wb) := PE.imp (pe_andT ha hb) fun σ H Q h => by
  obtain ⟨P, E, τ, M, Q', st, sm, hw, hc, hE⟩ := h
  refine ⟨P, E, τ, M, _, st, sm, hw, fun v H1 x M1 l1 sm1 r1 h1 => ?_, hE⟩
  obtain ⟨k, t, q⟩ := truP_of sm1 r1 h1
  refine ⟨k, t, ?_⟩
  cases k with
  | false => rw [if_neg (by decide)] at q ⊢; exact hc _ _ _ _ l1 sm1 r1 q
  | true => rw [if_pos rfl] at q ⊢; exact ⟨P, E, τ, M1, Q', st.mono l1, sm1, q, hc.mono l1, hE.mono l1⟩
theorem we_one {op : BoolOp} (ha : WE X W a wa) : WE X W (.BoolOp op [a] pos) wa := pe_one ha
def wNotV (wa : ZWe) : ZWe := fun E τ M Q => wa E τ M fun x M1 => truP x M1 fun k M2 => Q (.bl (!k)) M2
theorem we_not (ha : WE X W a wa) : WE X W (.UnaryOp .Not a pos) (wNotV wa) := PE.imp (pe_notT ha) fun σ H Q h => by
  obtain ⟨P, E, τ, M, Q', st, sm, hw, hc, hE⟩ := h
  refine ⟨P, E, τ, M, _, st, sm, hw, fun v H1 x M1 l1 sm1 r1 h1 => ?_, hE⟩
  obtain ⟨k, t, q⟩ := truP_of sm1 r1 h1
  exact ⟨k, t, hc (.bl (!k)) _ (.bl (!k)) _ l1 sm1 rfl q⟩
def wIf (tc : ZWt) (wa wb : ZWe) : ZWe := fun E τ M Q => tc E τ M fun c M1 => if c = true then wa E τ M1 Q else wb E τ M1 Q
theorem we_if {tc : ZWt} (hc : WT X W c tc) (ha : WE X W a wa) (hb : WE X W b wb) : WE X W (.IfExp c a b pos) (wIf tc wa wb) := PE.imp (pe_ifExp hc ha hb) fun σ H Q h => by
  obtain ⟨P, E, τ, M, Q', st, sm, hw, hc, hE⟩ := h
  refine ⟨P, E, τ, M, _, st, sm, hw, fun k H1 M1 l1 sm1 h1 => ?_, hE⟩
  cases k with
  | true => rw [if_pos rfl] at h1 ⊢; exact ⟨P, E, τ, M1, Q', st.mono l1, sm1, h1, hc.mono l1, hE.mono l1⟩
  | false => rw [if_neg (by decide)] at h1 ⊢; exact ⟨P, E, τ, M1, Q', st.mono l1, sm1, h1, hc.mono l1, hE.mono l1⟩
/-! ### argument lists, displays -/
def wNil : ZWa := fun _ _ M Q => Q [] M
def wCons (wa : ZWe) (wr : ZWa) : ZWa := fun E τ M Q => wa E τ M fun x M1 => wr E τ M1 fun xs M2 => Q (x :: xs) M2
theorem wa_nil : WA X W [] wNil := PA.imp pa_nil fun σ H Q h => by
  obtain ⟨P, E, τ, M, Q', st, sm, hw, hc, hE⟩ := h
  exact hc [] _ [] _ Le.refl sm rfl hw
theorem wa_cons {wr : ZWa} (ha : WE X W e wa) (hr : WA X W es wr) (hs : starEach (e :: es) X.env = (false, eval e X.env) :: starEach es X.env) : WA X W (e :: es) (wCons wa wr) := PA.imp (pa_cons ha hr hs) fun σ H Q h => by
  obtain ⟨P, E, τ, M, Q', st, sm, hw, hc, hE⟩ := h
  refine ⟨P, E, τ, M, _, st, sm, hw, fun v H1 x M1 l1 sm1 r1 h1 => ?_, hE⟩
  refine ⟨P, E, τ, M1, _, st.mono l1, sm1, h1, fun vs H2 xs M2 l2 sm2 r2 h2 => ?_, hE.mono l1⟩
  exact hc (v :: vs) _ _ _ (l1.trans l2) sm2 (Rs.cons (R.mono l2 _ _ r1) r2) h2
def wTup (w : ZWa) : ZWe := fun E τ M Q => w E τ M fun xs M1 => xs.length ≤ sizeLine ∧ Q (.tup xs) M1
def newL (M : Mp) (xs : List PV) (Q : ZQ) : Prop := xs.length ≤ sizeLine ∧ ∀ p, M p = none → Q (.ref p) (mu M p (.lst xs))
def wLst (w : ZWa) : ZWe := fun E τ M Q => w E τ M fun xs M1 => newL M1 xs Q
theorem we_tup {w : ZWa} {k : Nat} (h : WA X W es w) : WE X W (.Tuple es k pos) (wTup w) := PE.imp (pe_tup h) fun σ H Q h => by
  obtain ⟨P, E, τ, M, Q', st, sm, hw, hc, hE⟩ := h
  refine ⟨P, E, τ, M, _, st, sm, hw, fun vs H1 xs M1 l1 sm1 r1 h1 => ?_, hE⟩
  refine ⟨by rw [r1.length]; exact h1.1, fun p hp => ?_⟩
  exact hc _ _ _ _ (l1.trans (Le.new hp)) (sm1.new_tup hp) (R.tupNew r1 hp) h1.2
theorem newL_of {K : PySem.W.Frag} {P H : Hp} {M : Mp} {xs : List PV} {vs : List V} {Q' : ZQ} {Q : VK} {p : Addr} (sm : SRm K P H M) (r : Rs K H xs vs) (h : newL M xs Q') (c : Cont K P H Q' Q) (hp : H p = none) : Q (.ref p) (upd H p (.lst vs)) :=
  c _ _ (.ref p) _ (Le.new hp) (sm.new_lst hp r) rfl (h.2 p (sm.fresh hp))
theorem we_lst {w : ZWa} (h : WA X W es w) : WE X W (.List es pos) (wLst w) := PE.imp (pe_lst h) fun σ H Q h => by
  obtain ⟨P, E, τ, M, Q', st, sm, hw, hc, hE⟩ := h
  refine ⟨P, E, τ, M, _, st, sm, hw, fun vs H1 xs M1 l1 sm1 r1 h1 => ?_, hE⟩
  exact ⟨by rw [r1.length]; exact h1.1, fun p hp => newL_of sm1 r1 h1 (hc.mono l1) hp⟩
/-! ### calls -/
def toSp (K : PySem.W.Frag) (mg : Gm) (ms : ZSp) : Sp := fun vs H Q E => ∃ P xs M Q' E', Rs K H xs vs ∧ SRm K P H M ∧ ms xs M Q' E' ∧ Cont K P H Q' Q ∧ Exl K P mg (fun cls d _ H => E cls d H) [] H E'
def wCall (sp : ZSp) (w : ZWa) : ZWe := fun E τ M Q => w E τ M fun xs M1 => sp xs M1 Q E
/-- every parameter given by its name; perm: which one stands at each place -/
def KB0 (K : PySem.W.Frag) (fd : FuncData) (ps ks : List Str) (perm : List Nat) : Prop := perm.length = ps.length ∧ ∀ (s : Shared) (ws : List Value), K.In s.heap → ws.length = ks.length → BindsTo s fd ⟨[], ks.zip ws⟩ (ps.zip (perm.map (ws.getD · .none)))
/-- math.gcd -/
def sp_gcd : ZSp := fun xs M Q _ => match xs with
  | [.int a, .int b] => Q (.int ((Nat.gcd a.natAbs b.natAbs : Nat) : Int)) M
  | _ => False
/-- the mark of an own exception's class among what is called -/
def excMark : Str := Str.ofString "raise"
/-- what its __init__ keeps: each field, by its parameter -/
def spInit (C : Addr) (fl : List Str) : Sp := fun vs H Q _ => ∃ (a : Addr) (ys : List V), vs = .ref a :: ys ∧ ys.length = fl.length ∧ H a = some (exo a C none) ∧
  ∀ (d : Addr) (H2 : Hp) (fs : List (Str × V)), H d = none → d ≠ a → H2 a = some (exo a C (some d)) → H2 d = some (exd d fs) → (∀ f y, (f, y) ∈ fl.zip ys → fs.lookup f = some y) → (∀ b, b ≠ a → b ≠ d → H2 b = H b) → Q .non H2
/-- what the written part says of an own exception's class -/
structure ExcC (K : PySem.W.Frag) (C fI : Addr) (fl : List Str) : Prop where
  ox : OexC K C
  xf : XfC K C
  no : ∀ f ∈ fl, PySem.W.findIn K (.ref C) f = some none
  te : PySem.W.exmOne K (.ref C) (.ref C) = some true
  iC : PySem.W.findIn K (.ref C) "__init__" = some (some (.ref fI))
  tI : PySem.W.typeIn K (.ref fI) = some (.type "function")
structure ExcAt (P : Program) (w : World) (K : PySem.W.Frag) (mg : Gm) (base : Heap) (k : Nat) (x : Str) (fl : List Str) : Prop where
  ex : ∃ (C fI : Addr) (fd : FuncData) (ps : List Str) (j : Nat), mg x = some (.ref C) ∧ ExcC K C fI fl ∧ j + 1 ≤ k ∧ FnOk P w K mg base (L2N.CX P w) j fI fd ps (spInit C fl) ∧ Binds K fd ps []
structure CallOk (P : Program) (w : World) (K : PySem.W.Frag) (mg : Gm) (base : Heap) (k : Nat) (x : Str) (n : Nat) (ks : List Str) (sp : ZSp) : Prop where
  ex : (ks = [] ∧ mg x = some (.builtin "math.gcd") ∧ sp = sp_gcd) ∨ (∃ fl, ks = excMark :: fl ∧ ExcAt P w K mg base k x fl) ∨ ∃ f fd ps sp0, ks.head? ≠ some excMark ∧ FnOk P w K mg base (L2N.CX P w) k f fd ps (toSp K mg sp0) ∧ mg x = some (.ref f) ∧ PySem.W.keepIn K (.ref f) = true ∧
    ((ks = [] ∧ Binds K fd ps [] ∧ ps.length = n ∧ sp0 = sp) ∨ (ks ≠ [] ∧ ∃ perm : List Nat, KB0 K fd ps ks perm ∧ ∀ ys M Q E, sp ys M Q E → ys.length = ks.length ∧ sp0 (perm.map (ys.getD · .non)) M Q E))
theorem takesF {X : Cx} : L2N.Takes X (fun _ _ _ _ => False) := fun _ _ x => by
  obtain ⟨_, _, _, _, _, _, _, _, _, _, _, _, _, _, _, _, z⟩ := x
  exact z.elim
section
variable {P : Program} {w : World} {K : PySem.W.Frag} {mg : Str → Option Value} {base : Heap} {x qual : Str} {st : Stmt} {f : Addr} {fd : FuncData} {N ps : List Str} {k : Nat} {sp : Sp}
theorem okN (F : L2.Fun K x qual st f fd) (S : FnScope N ps (defScope st)) (len : ∀ vs H Q E, sp vs H Q E → vs.length = ps.length)
    (hbody : ∀ (cdv : Value) (A : Around) (outer : List Env) (s : Shared) (H : Hp) (vs : List V) (Q : VK) (E : XK), Room k (A.deeper (envOfC qual (defScope st) s.heap.objs.size f cdv)) → sp vs H Q E →
      ∃ t, PSs (cxOf (L2N.CX P w) P w K mg base N qual (defScope st) f cdv A outer s H E) (defBody st) t ∧ t { nx := fun _ H' => Q .non H', rt := Q } (L2.start N vs) H) : FnOk P w K mg base (L2N.CX P w) (k + 1) f fd ps sp := by
  obtain ⟨oc, od, kV, doc, pm, an, cdv, ct, osl, rfl, lk, hcd⟩ := F.ex
  exact fn_of lk hcd S len fun A outer s H vs Q E hr hsp => hbody cdv A outer s H vs Q E hr hsp
theorem okNH (F : L2.Fun K x qual st f fd) (S : FnScope N ps (defScope st)) (len : ∀ vs H Q E, sp vs H Q E → vs.length = ps.length)
    (hbody : ∀ (cdv : Value) (A : Around) (outer : List Env) (s : Shared) (H : Hp) (vs : List V) (Q : VK) (E : XK) (p : Addr × Obj), L2H.Hot1 A p → L2H.RoomH k (A.deeper (envOfC qual (defScope st) s.heap.objs.size f cdv)) → sp vs H Q E →
      ∃ t, PSs (L2H.cxH (L2N.CX P w) P w K mg base N qual (defScope st) f cdv A outer s H E p) (defBody st) t ∧ t { nx := fun _ H' => Q .non H', rt := Q } (L2.start N vs) H) : L2H.FnH P w K mg base (L2N.CX P w) (k + 1) f fd ps sp := by
  obtain ⟨oc, od, kV, doc, pm, an, cdv, ct, osl, rfl, lk, hcd⟩ := F.ex
  exact L2H.fn_ofH lk hcd S len fun A outer s H vs Q E p hp hr hsp => hbody cdv A outer s H vs Q E p hp hr hsp
end
/-- a def that may be called while an exception is handled -/
structure CallH (P : Program) (w : World) (K : PySem.W.Frag) (mg : Gm) (base : Heap) (k : Nat) (x : Str) (n : Nat) (sp : ZSp) : Prop where
  ex : ∃ f fd ps, L2H.FnH P w K mg base (L2N.CX P w) k f fd ps (toSp K mg sp) ∧ mg x = some (.ref f) ∧ PySem.W.keepIn K (.ref f) = true ∧ Binds K fd ps [] ∧ ps.length = n
/-- either, by the state that the caller is in -/
structure CalOk (cm : Bool) (P : Program) (w : World) (K : PySem.W.Frag) (mg : Gm) (base : Heap) (k : Nat) (x : Str) (n : Nat) (ks : List Str) (sp : ZSp) : Prop where
  calm : cm = true → CallOk P w K mg base k x n ks sp
  hot : cm = false → ks = [] ∧ CallH P w K mg base k x n sp
theorem we_callH {x : Str} {p : Pos} {sp : ZSp} {w : ZWa} {k n : Nat} (C : CallH X.prog X.w X.K X.mg X.base k x n sp) (hr : L2H.RoomH k X.A) (ht : L2H.HotC X) (tk : L2N.Takes X W) (hg : Gl X x) (hd : (x == ("__debug__" : Str)) = false) (h : WA X W (e :: es) w)
    (he : starEach (e :: es) X.env = (false, eval e X.env) :: starEach es X.env) (hpl : (backTo pos (starEach es X.env)).any (·.1) = false) : WE X W (.Call (.Name x p) (e :: es) [] pos) (wCall sp w) := by
  obtain ⟨f, fd, ps, F, hm, hk, hb, _⟩ := C.ex
  refine PE.imp (L2H.pe_callH F hr ht hg hm hk hb (fun σ => L2N.passAt tk σ) h hd he hpl) fun σ H Q h => ?_
  obtain ⟨P, E, τ, M, Q', st, sm, hw, hc, hE⟩ := h
  refine ⟨P, E, τ, M, _, st, sm, hw, fun vs H1 xs M1 l1 sm1 r1 h1 => ?_, hE⟩
  exact ⟨P, xs, M1, Q', E, r1, sm1, h1, hc.mono l1, fun c fs M' cls d H' l s x e => hE c fs M' cls d H' (l1.trans l) s x e⟩
theorem we_call {x : Str} {p : Pos} {sp : ZSp} {w : ZWa} {k n : Nat} (C : CallOk X.prog X.w X.K X.mg X.base k x n [] sp) (hr : Room k X.A) (tk : L2N.Takes X W) (hg : Gl X x) (hd : (x == ("__debug__" : Str)) = false) (h : WA X W (e :: es) w)
    (he : starEach (e :: es) X.env = (false, eval e X.env) :: starEach es X.env) (hpl : (backTo pos (starEach es X.env)).any (·.1) = false) : WE X W (.Call (.Name x p) (e :: es) [] pos) (wCall sp w) := by
  rcases C.ex with ⟨_, hm, rfl⟩ | ⟨_, z, _⟩ | ⟨f, fd, ps, sp0, _, F, hm, hk, hh⟩
  rotate_left
  · cases z
  rotate_left
  · refine PE.imp (pe_callBfun cr_gcd hg hm h hd he hpl) fun σ H Q h => ?_
    obtain ⟨P, E, τ, M, Q', st, sm, hw, hc, hE⟩ := h
    refine ⟨P, E, τ, M, _, st, sm, hw, fun vs H1 xs M1 l1 sm1 r1 h1 => ?_, hE⟩
    unfold sp_gcd at h1
    dsimp only at h1
    split at h1
    · rename_i a b
      obtain ⟨v, w, rfl, ra, rb⟩ := r1
      obtain ⟨v', w', rfl, rb, e⟩ := rb
      have e : w' = [] := e
      subst e
      have e1 : v = V.int a := ra
      have e2 : v' = V.int b := rb
      subst e1 e2
      exact ⟨a, b, rfl, hc (.int _) H1 (.int _) M1 l1 sm1 rfl h1⟩
    · exact h1.elim
  rcases hh with ⟨_, hb, _, rfl⟩ | ⟨z, _⟩
  rotate_left
  · exact absurd rfl z
  refine PE.imp (pe_callS F hr hg hm hk hb (fun σ => L2N.passAt tk σ) h hd he hpl) fun σ H Q h => ?_
  obtain ⟨P, E, τ, M, Q', st, sm, hw, hc, hE⟩ := h
  refine ⟨P, E, τ, M, _, st, sm, hw, fun vs H1 xs M1 l1 sm1 r1 h1 => ?_, hE⟩
  exact ⟨P, xs, M1, Q', E, r1, sm1, h1, hc.mono l1, fun c fs M' cls d H' l s x e => hE c fs M' cls d H' (l1.trans l) s x e⟩
/-- a built-in function, by values -/
def CallZ (K : PySem.W.Frag) (r : List V → Hp → VK → Prop) (f : List PV → Mp → ZQ → Prop) : Prop := ∀ {P : Hp} xs vs H M Q' Q, SRm K P H M → Rs K H xs vs → f xs M Q' → Cont K P H Q' Q → r vs H Q
theorem CallZ.or {K : PySem.W.Frag} {r r' : List V → Hp → VK → Prop} {b b' c : List PV → Mp → ZQ → Prop} (h : CallZ K r b) (h' : CallZ K r' b') (hc : ∀ x M Q, c x M Q → b x M Q ∨ b' x M Q) : CallZ K (fun x H Q => r x H Q ∨ r' x H Q) c :=
  fun xs vs H M Q' Q sm rx q k => (hc xs M Q' q).elim (fun q => .inl (h xs vs H M Q' Q sm rx q k)) fun q => .inr (h' xs vs H M Q' Q sm rx q k)
def wCB (f : List PV → Mp → ZQ → Prop) (w : ZWa) : ZWe := fun E τ M Q => w E τ M fun xs M1 => f xs M1 Q
theorem lift_cb {r : List V → Hp → VK → Prop} {f : List PV → Mp → ZQ → Prop} {w : ZWa} (hz : CallZ X.K r f) {σ : L2.St} {H : Hp} {Q : VK} (h : lift X.K X.mg W (wCB f w) σ H Q) : tCB r (liftA X.K X.mg W w) σ H Q := by
  obtain ⟨P, E, τ, M, Q', st, sm, hw, hc, hE⟩ := h
  exact ⟨P, E, τ, M, _, st, sm, hw, fun v H1 x M1 l1 sm1 r1 h1 => hz x v H1 M1 Q' Q sm1 r1 h1 (hc.mono l1), hE⟩
end
end Zd

set_option Elab.async false
set_option linter.all false
set_option maxRecDepth 100000
set_option maxHeartbeats 4000000
/-! Zd 3: what the operators do, by values. -/
namespace Zd
open PySem PySem.Spec PyProof.Rows L2

section
variable {K : PySem.W.Frag} {P H : Hp} {M : Mp} {x : PV} {v : V}
theorem R.of_int {i : Int} (r : R K H (.int i) v) : v = .int i := r
theorem R.of_str {i : Str} (r : R K H (.str i) v) : v = .str i := r
theorem R.of_bl {i : Bool} (r : R K H (.bl i) v) : v = .bl i := r
theorem R.of_non (r : R K H .non v) : v = .non := r
theorem R.of_ref {a : Addr} (r : R K H (.ref a) v) : v = .ref a := r
theorem R.of_ty {a : String} (r : R K H (.ty a) v) : v = .ty a := r
end

/-! ### ints -/
def iiP (f : Int → Int → PV) (x y : PV) (M : Mp) (Q : ZQ) : Prop := match x, y with
  | .int i, .int j => Q (f i j) M
  | _, _ => False
def iicP (c : Int → Int → Prop) (f : Int → Int → PV) (x y : PV) (M : Mp) (Q : ZQ) : Prop := match x, y with
  | .int i, .int j => c i j ∧ Q (f i j) M
  | _, _ => False
theorem iicP_of {c : Int → Int → Prop} {f : Int → Int → PV} {x y : PV} {M : Mp} {Q : ZQ} (h : iicP c f x y M Q) : ∃ i j, x = .int i ∧ y = .int j ∧ c i j ∧ Q (f i j) M := by
  cases x with
  | int i => cases y with
    | int j => exact ⟨i, j, rfl, rfl, h.1, h.2⟩
    | _ => exact h.elim
  | _ => exact h.elim
theorem iiP_of {f : Int → Int → PV} {x y : PV} {M : Mp} {Q : ZQ} (h : iiP f x y M Q) : ∃ i j, x = .int i ∧ y = .int j ∧ Q (f i j) M := by
  cases x with
  | int i => cases y with
    | int j => exact ⟨i, j, rfl, rfl, h⟩
    | _ => exact h.elim
  | _ => exact h.elim
section
variable {K : PySem.W.Frag}
theorem oz_ii {f : Int → Int → Int} : OpZ K (rI0 fun i j => .int (f i j)) (iiP fun i j => .int (f i j)) := fun x y v u H M Q' Q sm rx ry q k => by
  obtain ⟨i, j, rfl, rfl, q⟩ := iiP_of q
  exact ⟨i, j, rx, ry, k.now (x := .int (f i j)) sm rfl q⟩
theorem oz_iib {f : Int → Int → Bool} : OpZ K (rI0 fun i j => .bl (f i j)) (iiP fun i j => .bl (f i j)) := fun x y v u H M Q' Q sm rx ry q k => by
  obtain ⟨i, j, rfl, rfl, q⟩ := iiP_of q
  exact ⟨i, j, rx, ry, k.now (x := .bl (f i j)) sm rfl q⟩
theorem oz_iic {c c' : Int → Int → Prop} {f : Int → Int → Int} (hc : ∀ i j, c' i j → c i j) : OpZ K (rI c fun i j => .int (f i j)) (iicP c' fun i j => .int (f i j)) := fun x y v u H M Q' Q sm rx ry q k => by
  obtain ⟨i, j, rfl, rfl, c, q⟩ := iicP_of q
  exact ⟨i, j, rx, ry, hc _ _ c, k.now (x := .int (f i j)) sm rfl q⟩
end
/-! ### + -/
def addP (x y : PV) (M : Mp) (Q : ZQ) : Prop := match x, y with
  | .int i, .int j => Q (.int (i + j)) M
  | .str a, .str b => a.length + b.length ≤ sizeLine ∧ Q (.str (a ++ b)) M
  | .tup xs, .tup ys => xs ≠ [] ∧ xs.length + ys.length ≤ sizeLine ∧ Q (.tup (xs ++ ys)) M
  | .ref p, .ref q => match M p, M q with
    | some (.lst xs), some (.lst ys) => newL M (xs ++ ys) Q
    | _, _ => False
  | _, _ => False
def mulOk (i j : Int) : Prop := CMul i j ∨ CMulX i j
def mulP (x y : PV) (M : Mp) (Q : ZQ) : Prop := match x, y with
  | .int i, .int j => mulOk i j ∧ Q (.int (i * j)) M
  | .ref p, .int k => match M p with
    | some (.lst xs) => (-(2 ^ 63) ≤ k ∧ k < 2 ^ 63 ∧ xs.length * k.toNat ≤ sizeLine) ∧ ∀ p, M p = none → Q (.ref p) (mu M p (.lst (List.replicate k.toNat xs).flatten))
    | _ => False
  | .tup xs, .int k => (xs ≠ [] ∧ 1 ≤ k ∧ k ≤ 1000 ∧ xs.length ≤ 1000) ∧ Q (.tup (List.replicate k.toNat xs).flatten) M
  | _, _ => False
/-- // without a rest, also by what is below 0 -/
def CDivX (i j : Int) : Prop := (j ≠ 0 ∧ j.natAbs.log2 < 9000) ∧ j ∣ i
def divOk (i j : Int) : Prop := CDiv i j ∨ CDivW i j ∨ CDivX i j
section
variable {X : Cx}
def rAddAll (K : PySem.W.Frag) : R2 := fun x y H Q => (∃ i j, x = .int i ∧ y = .int j ∧ Q (.int (i + j)) H) ∨ (∃ i j, x = .str i ∧ y = .str j ∧ i.length + j.length ≤ sizeLine ∧ Q (.str (i ++ j)) H) ∨ rCatT K x y H Q ∨ rCat x y H Q
theorem op_addAll : OpR X (binaryOp .Add) (rAddAll X.K) := op_add.or (op_add_str.or (op_catT.or op_cat))
theorem oz_add {K : PySem.W.Frag} : OpZ K (rAddAll K) addP := fun x y v u H M Q' Q sm rx ry q k => by
  cases x with
  | int i => cases y with
    | int j => exact .inl ⟨i, j, rx, ry, k.now (x := .int (i + j)) sm rfl q⟩
    | _ => exact q.elim
  | str i => cases y with
    | str j => exact .inr (.inl ⟨i, j, rx, ry, q.1, k.now (x := .str (i ++ j)) sm rfl q.2⟩)
    | _ => exact q.elim
  | tup xs => cases y with
    | tup ys =>
      obtain ⟨a, vs, rfl, sa, ra⟩ := rx
      obtain ⟨b, ws, rfl, sb, rb⟩ := ry
      refine .inr (.inr (.inl ⟨a, b, vs, ws, rfl, rfl, sa, sb, ?_, ?_, fun z => ?_, fun z p hp => ?_⟩))
      · rintro rfl
        have h := ra.length
        exact q.1 (List.eq_nil_of_length_eq_zero h.symm)
      · rw [ra.length, rb.length]; exact q.2.1
      · subst z
        have e : ys = [] := List.eq_nil_of_length_eq_zero rb.length.symm
        subst e
        exact k.now (x := .tup (xs ++ [])) sm ⟨a, vs, rfl, sa, by rw [List.append_nil]; exact ra⟩ q.2.2
      · exact k _ _ _ _ (Le.new hp) (sm.new_tup hp) (R.tupNew (ra.append rb) hp) q.2.2
    | _ => exact q.elim
  | ref p => cases y with
    | ref b =>
      obtain rfl : v = .ref p := rx
      obtain rfl : u = .ref b := ry
      dsimp only [addP] at q
      split at q
      · rename_i xs ys e1 e2
        obtain ⟨vs, h1, r1⟩ := sm.lst e1
        obtain ⟨ws, h2, r2⟩ := sm.lst e2
        refine .inr (.inr (.inr ⟨p, b, vs, ws, rfl, rfl, h1, h2, ?_, fun l hl => newL_of sm (r1.append r2) q k hl⟩))
        rw [r1.length, r2.length, ← List.length_append]; exact q.1
      · exact q.elim
    | _ => exact q.elim
  | _ => exact q.elim
theorem rep_rel {K : PySem.W.Frag} {H : Hp} {xs : List PV} {vs : List V} (r : Rs K H xs vs) : ∀ n : Nat, Rs K H (List.replicate n xs).flatten (List.replicate n vs).flatten
  | 0 => rfl
  | n + 1 => by
    rw [List.replicate_succ, List.replicate_succ, List.flatten_cons, List.flatten_cons]
    exact r.append (rep_rel r n)
/-- a tuple once: the same object -/
theorem tuple_mul1 (l : Addr) (items : Array Value) (n : Nat) (dd : Option Addr) (sl : Array (Option Value)) (u : Tok) :
    Meets (Builtin.«tuple.__mul__» ⟨[.ref l, .int 1 u], []⟩) (fun _ R s => s.heap.get? l = some { cls := .type "tuple", dict := dd, data := .seq items n, slots := sl } ∧ R (.ok (.ret (Value.ref l))) s) :=
  .of_wp fun prog w A R s h => by
    obtain ⟨hp, g, d, tk, os⟩ := s
    obtain ⟨hl, h⟩ := h
    have f1 := AutoSeq1.idx_int
    wp_walk using AutoSeq1.wpAny_loadPart' hl
    exact ⟨_, rfl, h⟩
def rRepT1 (K : PySem.W.Frag) : R2 := fun x y H Q => ∃ l xs, x = .ref l ∧ y = .int 1 ∧ SqT K H l xs ∧ Q (.ref l) H
theorem op_repT1 : OpR X (binaryOp .Mult) (rRepT1 X.K) := by
  intro pins s σ H x y v u Q I rx ry h
  obtain ⟨l, xs, rfl, rfl, hT, q⟩ := h
  cases rx
  obtain ⟨t, rfl⟩ := ry
  obtain ⟨its, r, ⟨⟨cls, dd, data, sl⟩, ho, hc, n, hd⟩, hs⟩ := I.tuple hT
  simp only at hc hd
  subst hc hd
  exact wpAny_binaryOp_repeat_ref (T := "tuple") (U := "int") (by decide) ⟨_, ho, rfl⟩ (fun s' => typeIs_int s' 1 t) noFill_tuple_mul F.fills_int_mul F.slot_int_rmul repeat_tuple F.slot_int_index.lookup
    (call_meets F.slot_int_rmul (typeIs_int s 1 t) F.entry_int_rmul (F.args_int_rmul_2 _ _) (int_rmul_tuple 1 t l its.toArray n dd sl)
      ⟨ho, rfl, ⟨_, ho, rfl⟩, call_meets F.slot_tuple_mul ⟨_, ho, rfl⟩ F.entry_tuple_mul (F.args_tuple_mul_2 _ _) (tuple_mul1 l its.toArray n dd sl t) ⟨ho, .ref l, H, I, rfl, q⟩⟩)
def rMulAll (K : PySem.W.Frag) : R2 := fun x y H Q => rI CMul (fun i j => .int (i * j)) x y H Q ∨ rI CMulX (fun i j => .int (i * j)) x y H Q ∨ rRep x y H Q ∨ rRepT K x y H Q ∨ rRepT1 K x y H Q
theorem op_mulAll : OpR X (binaryOp .Mult) (rMulAll X.K) := op_mul.or (op_mulX.or (op_rep.or (op_repT.or op_repT1)))
theorem oz_mul {K : PySem.W.Frag} : OpZ K (rMulAll K) mulP := fun x y v u H M Q' Q sm rx ry q k => by
  cases x with
  | int i => cases y with
    | int j =>
      rcases q.1 with h | h
      · exact .inl ⟨i, j, rx, ry, h, k.now (x := .int (i * j)) sm rfl q.2⟩
      · exact .inr (.inl ⟨i, j, rx, ry, h, k.now (x := .int (i * j)) sm rfl q.2⟩)
    | _ => exact q.elim
  | ref p => cases y with
    | int j =>
      obtain rfl : v = .ref p := rx
      dsimp only [mulP] at q
      split at q
      · rename_i xs e1
        obtain ⟨vs, h1, r1⟩ := sm.lst e1
        refine .inr (.inr <| .inl ⟨p, j, vs, rfl, ry, h1, q.1.1, q.1.2.1, by rw [r1.length]; exact q.1.2.2, fun l hl => ?_⟩)
        exact k _ _ (.ref l) _ (Le.new hl) (sm.new_lst hl (rep_rel r1 _)) rfl (q.2 l (sm.fresh hl))
      · exact q.elim
    | _ => exact q.elim
  | tup xs => cases y with
    | int j =>
      obtain ⟨a, vs, rfl, sa, ra⟩ := rx
      obtain rfl := R.of_int ry
      obtain ⟨⟨h1, h2, h3, h4⟩, q⟩ := q
      by_cases e : j = 1
      · subst e
        refine .inr (.inr <| .inr <| .inr ⟨a, vs, rfl, rfl, sa, k.now (x := .tup _) sm ⟨a, vs, rfl, sa, ?_⟩ q⟩)
        have : (List.replicate (1 : Int).toNat xs).flatten = xs := by simp
        rw [this]; exact ra
      · refine .inr (.inr <| .inr <| .inl ⟨a, j, vs, rfl, rfl, sa, fun z => h1 (List.eq_nil_of_length_eq_zero (by rw [← ra.length, z]; rfl)), by omega, h3, by rw [ra.length]; exact h4, fun l hl => ?_⟩)
        exact k _ _ _ _ (Le.new hl) (sm.new_tup hl) (R.tupNew (rep_rel ra _) hl) q
    | _ => exact q.elim
  | _ => exact q.elim
theorem op_fdivX : OpR X (binaryOp .FloorDiv) (rI CDivX fun i j => .int (i / j)) := opI fun i j _ _ _ _ _ hc q => by
  obtain ⟨⟨h1, h2⟩, h3⟩ := hc
  exact floordiv_int h1 (by rw [Int.fdiv_eq_ediv_of_dvd h3]; exact q) (.inl (PyProof.noPylong_of_log2 h2))
def rDivAll : R2 := fun x y H Q => rI CDiv (fun i j => .int (i / j)) x y H Q ∨ rI CDivW (fun i j => .int (i / j)) x y H Q ∨ rI CDivX (fun i j => .int (i / j)) x y H Q
theorem op_divAll : OpR X (binaryOp .FloorDiv) rDivAll := op_fdiv.or (op_fdivW.or op_fdivX)
theorem oz_div {K : PySem.W.Frag} : OpZ K rDivAll (iicP divOk fun i j => .int (i / j)) := fun x y v u H M Q' Q sm rx ry q k => by
  obtain ⟨i, j, rfl, rfl, c, q⟩ := iicP_of q
  rcases c with c | c | c
  · exact .inl ⟨i, j, rx, ry, c, k.now (x := .int (i / j)) sm rfl q⟩
  · exact .inr (.inl ⟨i, j, rx, ry, c, k.now (x := .int (i / j)) sm rfl q⟩)
  · exact .inr (.inr ⟨i, j, rx, ry, c, k.now (x := .int (i / j)) sm rfl q⟩)
end
/-! ### by operator -/
def binP (op : Operator) : PV → PV → Mp → ZQ → Prop := match op with
  | .Add => addP
  | .Sub => iiP fun i j => .int (i - j)
  | .Mult => mulP
  | .FloorDiv => iicP divOk fun i j => .int (i / j)
  | .Mod => iicP (fun _ j => 0 < j) fun i j => .int (i % j)
  | .Pow => iicP CPow fun i j => .int (i ^ j.toNat)
  | .LShift => iicP CPow fun i j => .int (i * 2 ^ j.toNat)
  | .RShift => iicP (fun _ j => 0 ≤ j) fun i j => .int (i / 2 ^ j.toNat)
  | .BitAnd => iiP fun i j => .int (Builtin.bitAnd i j)
  | .BitOr => iiP fun i j => .int (Builtin.bitOr i j)
  | .BitXor => iiP fun i j => .int (Builtin.bitXor i j)
  | _ => fun _ _ _ _ => False
theorem bin_ok {X : Cx} (op : Operator) : ∃ r, OpR X (binaryOp op) r ∧ OpZ X.K r (binP op) := by
  cases op with
  | Add => exact ⟨_, op_addAll, oz_add⟩
  | Sub => exact ⟨_, op_sub, oz_ii⟩
  | Mult => exact ⟨_, op_mulAll, oz_mul⟩
  | FloorDiv => exact ⟨_, op_divAll, oz_div⟩
  | Mod => exact ⟨_, op_mod, oz_iic fun _ _ h => h⟩
  | Pow => exact ⟨_, op_pow, oz_iic fun _ _ h => h⟩
  | LShift => exact ⟨_, op_shl, oz_iic fun _ _ h => h⟩
  | RShift => exact ⟨_, op_shr, oz_iic fun _ _ h => h⟩
  | BitAnd => exact ⟨_, op_and, oz_ii⟩
  | BitOr => exact ⟨_, op_or, oz_ii⟩
  | BitXor => exact ⟨_, op_xor, oz_ii⟩
  | _ => exact ⟨fun _ _ _ _ => False, fun _ _ _ _ _ _ _ _ _ _ _ _ h => h.elim, fun _ _ _ _ _ _ _ _ _ _ _ h _ => h.elim⟩
def unP (op : UnaryOp) (x : PV) (M : Mp) (Q : ZQ) : Prop := match op, x with
  | .USub, .int i => Q (.int (-i)) M
  | .Invert, .int i => Q (.int (Builtin.bitNot i)) M
  | _, _ => False
theorem un_ok {X : Cx} (op : UnaryOp) : ∃ r, UnR X (unaryOp op) r ∧ UnZ X.K r (unP op) := by
  cases op with
  | USub => exact ⟨_, un_neg, fun x v H M Q' Q sm rx q k => by
      cases x with
      | int i => exact ⟨i, rx, k.now (x := .int (-i)) sm rfl q⟩
      | _ => exact q.elim⟩
  | Invert => exact ⟨_, un_inv, fun x v H M Q' Q sm rx q k => by
      cases x with
      | int i => exact ⟨i, rx, k.now (x := .int (Builtin.bitNot i)) sm rfl q⟩
      | _ => exact q.elim⟩
  | _ => exact ⟨fun _ _ _ => False, fun _ _ _ _ _ _ _ _ _ h => h.elim, fun _ _ _ _ _ _ _ _ h _ => False.elim (by revert h; unfold unP; split <;> simp_all)⟩
/-! ### comparisons -/
mutual
def pd : PV → Option PyData
  | .non => some .none
  | .bl b => some (.bool b)
  | .int i => some (.int i)
  | .str x => some (.str x)
  | .tup xs => (pds xs).map .tuple
  | .ref _ => none
  | .ty _ => none
  | .fl _ => none
  | .ftu _ => none
def pds : List PV → Option (List PyData)
  | [] => some []
  | x :: xs => match pd x, pds xs with
    | some d, some ds => some (d :: ds)
    | _, _ => none
end
section
variable {K : PySem.W.Frag} {P H : Hp}
mutual
theorem dp_of : ∀ (x : PV) (v : V) (d : PyData), pd x = some d → R K H x v → Dp K H v d
  | .non, v, d, e, r => by cases e; obtain rfl : v = .non := r; exact .non
  | .bl b, v, d, e, r => by cases e; obtain rfl : v = .bl b := r; exact .bl b
  | .int i, v, d, e, r => by cases e; obtain rfl : v = .int i := r; exact .int i
  | .str x, v, d, e, r => by cases e; obtain rfl : v = .str x := r; exact .str x
  | .tup xs, v, d, e, r => by
    obtain ⟨a, vs, rfl, s, rs⟩ := r
    rw [pd] at e
    cases q : pds xs with
    | none => rw [q] at e; cases e
    | some ds =>
      rw [q] at e
      cases e
      exact .tup s (dps_of xs vs ds q rs)
  | .ref _, v, d, e, r => by cases e
  | .ty _, v, d, e, r => by cases e
  | .fl _, v, d, e, r => by cases e
  | .ftu _, v, d, e, r => by cases e
theorem dps_of : ∀ (xs : List PV) (vs : List V) (ds : List PyData), pds xs = some ds → Rs K H xs vs → DpAll K H vs ds
  | [], vs, ds, e, r => by cases e; obtain rfl : vs = [] := r; exact .nil
  | x :: xs, vs, ds, e, r => by
    obtain ⟨v, ws, rfl, r1, rs⟩ := r
    rw [pds] at e
    cases q : pd x with
    | none => rw [q] at e; cases e
    | some d =>
      cases q2 : pds xs with
      | none => rw [q, q2] at e; cases e
      | some es =>
        rw [q, q2] at e
        cases e
        exact .cons (dp_of x v d q r1) (dps_of xs ws es q2 rs)
end
end
def eqP (neg : Bool) (x y : PV) (M : Mp) (Q : ZQ) : Prop := match x, y with
  | .int i, .int j => Q (.bl (neg != decide (i = j))) M
  | .str i, .str j => Q (.bl (neg != decide (i = j))) M
  | .bl i, .bl j => Q (.bl (neg != decide (i = j))) M
  | x, y => match pd x, pd y with
    | some d, some e => (SeqAt.shaped d = true ∧ SeqAt.shaped e = true) ∧ Q (.bl (neg != PyData.eqv d e)) M
    | _, _ => False
theorem eqP_cases {neg : Bool} {x y : PV} {M : Mp} {Q : ZQ} (h : eqP neg x y M Q) : (∃ i j, x = .int i ∧ y = .int j ∧ Q (.bl (neg != decide (i = j))) M) ∨ (∃ i j, x = .str i ∧ y = .str j ∧ Q (.bl (neg != decide (i = j))) M) ∨
    (∃ i j, x = .bl i ∧ y = .bl j ∧ Q (.bl (neg != decide (i = j))) M) ∨ ∃ d e, pd x = some d ∧ pd y = some e ∧ SeqAt.shaped d = true ∧ SeqAt.shaped e = true ∧ Q (.bl (neg != PyData.eqv d e)) M := by
  have gen : ∀ x y : PV, (match pd x, pd y with
    | some d, some e => (SeqAt.shaped d = true ∧ SeqAt.shaped e = true) ∧ Q (.bl (neg != PyData.eqv d e)) M
    | _, _ => False) → ∃ d e, pd x = some d ∧ pd y = some e ∧ SeqAt.shaped d = true ∧ SeqAt.shaped e = true ∧ Q (.bl (neg != PyData.eqv d e)) M := fun x y h => by
    cases e1 : pd x with
    | none => rw [e1] at h; exact h.elim
    | some d =>
      cases e2 : pd y with
      | none => rw [e1, e2] at h; exact h.elim
      | some e => rw [e1, e2] at h; exact ⟨d, e, rfl, rfl, h.1.1, h.1.2, h.2⟩
  cases x <;> cases y <;> first | exact .inl ⟨_, _, rfl, rfl, h⟩ | exact .inr (.inl ⟨_, _, rfl, rfl, h⟩) | exact .inr (.inr (.inl ⟨_, _, rfl, rfl, h⟩)) | exact .inr (.inr (.inr (gen _ _ h)))
section
variable {X : Cx}
def rEqAll (K : PySem.W.Frag) : R2 := fun x y H Q => rEq x y H Q ∨ rEqD K x y H Q
def rNeAll (K : PySem.W.Frag) : R2 := fun x y H Q => rNe x y H Q ∨ rNeD K x y H Q
theorem op_eqAll (hu : X.A.units + 64 < cLine) : OpR X (compareOp .Eq) (rEqAll X.K) := op_eq.or (op_eqD hu)
theorem op_neAll (hu : X.A.units + 64 < cLine) : OpR X (compareOp .NotEq) (rNeAll X.K) := op_ne.or (op_neD hu)
theorem oz_eq {K : PySem.W.Frag} : OpZ K (rEqAll K) (eqP false) := fun x y v u H M Q' Q sm rx ry q k => by
  rcases eqP_cases q with ⟨i, j, rfl, rfl, q⟩ | ⟨i, j, rfl, rfl, q⟩ | ⟨i, j, rfl, rfl, q⟩ | ⟨d, e, h1, h2, s1, s2, q⟩
  · obtain rfl : v = .int i := rx
    obtain rfl : u = .int j := ry
    refine .inl ⟨rfl, ?_⟩
    refine k.now (x := .bl (false != decide (i = j))) sm ?_ q
    show V.bl _ = V.bl _
    congr 1
    simp
  · obtain rfl : v = .str i := rx
    obtain rfl : u = .str j := ry
    refine .inl ⟨rfl, ?_⟩
    refine k.now (x := .bl (false != decide (i = j))) sm ?_ q
    show V.bl _ = V.bl _
    congr 1
    simp
  · obtain rfl : v = .bl i := rx
    obtain rfl : u = .bl j := ry
    refine .inl ⟨rfl, ?_⟩
    refine k.now (x := .bl (false != decide (i = j))) sm ?_ q
    show V.bl _ = V.bl _
    congr 1
    simp
  · refine .inr ⟨d, e, dp_of _ _ _ h1 rx, dp_of _ _ _ h2 ry, s1, s2, ?_⟩
    refine k.now (x := .bl (false != PyData.eqv d e)) sm ?_ q
    show V.bl _ = V.bl _
    simp
theorem oz_ne {K : PySem.W.Frag} : OpZ K (rNeAll K) (eqP true) := fun x y v u H M Q' Q sm rx ry q k => by
  rcases eqP_cases q with ⟨i, j, rfl, rfl, q⟩ | ⟨i, j, rfl, rfl, q⟩ | ⟨i, j, rfl, rfl, q⟩ | ⟨d, e, h1, h2, s1, s2, q⟩
  · obtain rfl : v = .int i := rx
    obtain rfl : u = .int j := ry
    refine .inl ⟨rfl, ?_⟩
    refine k.now (x := .bl (true != decide (i = j))) sm ?_ q
    show V.bl _ = V.bl _
    congr 1
    simp
  · obtain rfl : v = .str i := rx
    obtain rfl : u = .str j := ry
    refine .inl ⟨rfl, ?_⟩
    refine k.now (x := .bl (true != decide (i = j))) sm ?_ q
    show V.bl _ = V.bl _
    congr 1
    simp
  · obtain rfl : v = .bl i := rx
    obtain rfl : u = .bl j := ry
    refine .inl ⟨rfl, ?_⟩
    refine k.now (x := .bl (true != decide (i = j))) sm ?_ q
    show V.bl _ = V.bl _
    congr 1
    simp
  · refine .inr ⟨d, e, dp_of _ _ _ h1 rx, dp_of _ _ _ h2 ry, s1, s2, ?_⟩
    refine k.now (x := .bl (true != PyData.eqv d e)) sm ?_ q
    show V.bl _ = V.bl _
    simp
end
/-- x in a sequence of flat values -/
def flatP : PV → Bool
  | .non => true
  | .bl _ => true
  | .int _ => true
  | .str _ => true
  | _ => false
def eqF : PV → PV → Bool
  | .non, .non => true
  | .bl a, .bl b => a == b
  | .bl a, .int b => (if a then 1 else 0) == b
  | .int a, .bl b => a == (if b then 1 else 0)
  | .int a, .int b => a == b
  | .str a, .str b => a == b
  | _, _ => false
/-! ### dicts -/
def keyOf : PV → Option Key
  | .int i => some (.inl i)
  | .str x => some (.inr x)
  | _ => none
theorem keyOf_R {K : PySem.W.Frag} {H : Hp} {x : PV} {v : V} {k : Key} (r : R K H x v) (h : keyOf x = some k) : v = kV k := by
  cases x with
  | int i => cases h; exact r
  | str i => cases h; exact r
  | _ => cases h
def valZ (kvs : List (Key × PV)) (k : Key) : Option PV := match kvs with
  | [] => none
  | p :: r => if p.1 = k then some p.2 else valZ r k
def putZ (kvs : List (Key × PV)) (k : Key) (y : PV) : List (Key × PV) :=
  if (valZ kvs k).isSome = true then kvs.map (fun p => if p.1 = k then (p.1, y) else p) else kvs ++ [(k, y)]
abbrev KR (K : PySem.W.Frag) (H : Hp) (p : Key × PV) (q : Key × V) : Prop := p.1 = q.1 ∧ R K H p.2 q.2
section
variable {K : PySem.W.Frag} {H H' : Hp} {kvs : List (Key × PV)} {ws : List (Key × V)}
theorem kr_mono (l : Le H H') (h : Paired (KR K H) kvs ws) : Paired (KR K H') kvs ws := L2.Paired.mapP h fun p q z => ⟨z.1, R.mono l _ _ z.2⟩
theorem kr_len (h : Paired (KR K H) kvs ws) : ws.length = kvs.length := by
  induction h with
  | nil => rfl
  | cons _ _ ih => rw [List.length_cons, List.length_cons, ih]
theorem kr_val (k : Key) (h : Paired (KR K H) kvs ws) : (valZ kvs k = none ∧ valV ws k = none) ∨ ∃ y v, valZ kvs k = some y ∧ valV ws k = some v ∧ R K H y v := by
  induction h with
  | nil => exact .inl ⟨rfl, rfl⟩
  | @cons p q ps qs hpq _ ih =>
    by_cases e : p.1 = k
    · refine .inr ⟨p.2, q.2, ?_, valV_pos (by rw [← hpq.1]; exact e), hpq.2⟩
      unfold valZ; rw [if_pos e]
    · have e' : ¬ q.1 = k := by rw [← hpq.1]; exact e
      have e1 : valZ (p :: ps) k = valZ ps k := by conv => lhs; unfold valZ; rw [if_neg e]
      rw [e1, valV_neg e']
      exact ih
theorem kr_map (k : Key) {y : PV} {v : V} (r : R K H y v) (h : Paired (KR K H) kvs ws) : Paired (KR K H) (kvs.map (fun p => if p.1 = k then (p.1, y) else p)) (ws.map (fun p => if p.1 = k then (p.1, v) else p)) := by
  induction h with
  | nil => exact .nil
  | @cons p q ps qs hpq _ ih =>
    rw [List.map_cons, List.map_cons]
    refine .cons ?_ ih
    by_cases e : p.1 = k
    · rw [if_pos e, if_pos (by rw [← hpq.1]; exact e)]
      exact ⟨hpq.1, r⟩
    · rw [if_neg e, if_neg (by rw [← hpq.1]; exact e)]
      exact hpq
theorem kr_app {xs : List (Key × PV)} {us : List (Key × V)} (h : Paired (KR K H) kvs ws) (h' : Paired (KR K H) xs us) : Paired (KR K H) (kvs ++ xs) (ws ++ us) := by
  induction h with
  | nil => exact h'
  | cons a _ ih => exact .cons a ih
theorem kr_put {k : Key} {y : PV} {v : V} (r : R K H y v) (h : Paired (KR K H) kvs ws) : Paired (KR K H) (putZ kvs k y) (putK ws k v) := by
  unfold putZ L2.putK
  rw [valV_any]
  rcases kr_val k h with ⟨h1, h2⟩ | ⟨z, u, h1, h2, _⟩
  · rw [h1, h2]
    exact kr_app h (.cons ⟨rfl, r⟩ .nil)
  · rw [h1, h2]
    exact kr_map k r h
end
def dicOf (x : PV) (M : Mp) : Option (List (Key × PV)) := match x with
  | .ref p => match M p with
    | some (.dic kvs) => some kvs
    | _ => none
  | _ => none
section
variable {K : PySem.W.Frag} {P H : Hp} {M : Mp}
theorem dic_of {d : PV} {v : V} {kvs : List (Key × PV)} (sm : SRm K P H M) (r : R K H d v) (h : dicOf d M = some kvs) : ∃ a ws, v = .ref a ∧ d = .ref a ∧ H a = some (.dK ws) ∧ Paired (KR K H) kvs ws := by
  cases d with
  | ref p =>
    obtain rfl := R.of_ref r
    dsimp only [dicOf] at h
    cases e : M p with
    | none => rw [e] at h; cases h
    | some o =>
      rw [e] at h
      cases o with
      | dic ys =>
        cases h
        obtain ⟨ws, h1, h2⟩ := sm.ok p _ e
        exact ⟨p, ws, rfl, rfl, h1, h2⟩
      | _ => cases h
  | _ => cases h
end
def inF (x : PV) (xs : List PV) : Bool := xs.any fun y => eqF y x
def seqOf (y : PV) (M : Mp) : Option (List PV) := match y with
  | .tup xs => some xs
  | .ref p => lget M p
  | _ => none
def inP (neg : Bool) (x y : PV) (M : Mp) (Q : ZQ) : Prop := match x, y with
  | .str a, .str b => a.length = 1 ∧ Q (.bl (neg != decide (a.cps.toList.head? ∈ b.cps.toList.map some))) M
  | .tup xs, .ref p => match seqOf (.ref p) M with
    | some ys => match pd (.tup xs), pds ys with
      | some d, some ds => (SeqAt.shaped d = true ∧ SeqAt.shaped (.list ds) = true) ∧ Q (.bl (neg != ds.any fun z => PyData.eqv z d)) M
      | _, _ => False
    | none => match dicOf (.ref p) M with
      | some kvs => ∃ q, keyOf (.tup xs) = some q ∧ Q (.bl (neg != (valZ kvs q).isSome)) M
      | none => False
  | x, y => match seqOf y M with
    | some xs => (flatP x = true ∧ xs.all flatP = true) ∧ Q (.bl (neg != inF x xs)) M
    | none => match dicOf y M with
      | some kvs => ∃ q, keyOf x = some q ∧ Q (.bl (neg != (valZ kvs q).isSome)) M
      | none => False
section
variable {K : PySem.W.Frag} {P H : Hp} {M : Mp}
theorem flat_of {x : PV} {v : V} (r : R K H x v) (f : flatP x = true) : flatV v = true := by
  cases x <;> first | (have e : v = _ := r; subst e; rfl) | cases f
theorem eqF_of {x y : PV} {v u : V} (r : R K H x v) (q : R K H y u) (f : flatP x = true) (g : flatP y = true) : eqV v u = eqF x y := by
  cases x <;> first | cases f | skip
  all_goals cases y <;> first | cases g | skip
  all_goals (have e1 : v = _ := r; have e2 : u = _ := q; subst e1 e2; rfl)
theorem allFlat_of : ∀ {xs : List PV} {vs : List V}, Rs K H xs vs → xs.all flatP = true → vs.all flatV = true
  | [], vs, r, _ => by have e : vs = [] := r; rw [e]; rfl
  | x :: xs, vs, r, h => by
    obtain ⟨v, ws, rfl, r1, rs⟩ := r
    rw [List.all_cons, Bool.and_eq_true] at h ⊢
    exact ⟨flat_of r1 h.1, allFlat_of rs h.2⟩
theorem inF_of {x : PV} {v : V} (r : R K H x v) (f : flatP x = true) : ∀ {xs : List PV} {vs : List V}, Rs K H xs vs → xs.all flatP = true → inV v vs = inF x xs
  | [], vs, q, _ => by have e : vs = [] := q; rw [e]; rfl
  | y :: xs, vs, q, h => by
    obtain ⟨u, ws, rfl, r1, rs⟩ := q
    rw [List.all_cons, Bool.and_eq_true] at h
    have ih := inF_of r f rs h.2
    unfold inV inF at ih ⊢
    rw [List.any_cons, List.any_cons, ih, eqF_of r1 r h.1 f]
theorem seqOf_of {y : PV} {u : V} {xs : List PV} (s : SRm K P H M) (r : R K H y u) (e : seqOf y M = some xs) : ∃ p vs, u = .ref p ∧ (SqL K H p vs ∨ SqT K H p vs) ∧ Rs K H xs vs := by
  cases y with
  | tup ys =>
    cases e
    obtain ⟨a, vs, rfl, q, rs⟩ := r
    exact ⟨a, vs, rfl, .inr q, rs⟩
  | ref p =>
    obtain rfl : u = .ref p := r
    obtain ⟨vs, q, rs⟩ := s.lget e
    exact ⟨p, vs, rfl, .inl q, rs⟩
  | _ => cases e
end
section
variable {X : Cx}
def rInDic (neg : Bool) : R2 := fun x y H Q => ∃ a o, y = .ref a ∧ DGet H a x o ∧ Q (.bl (neg != o.isSome)) H
theorem op_inDic (hu : X.A.units + 1 < cLine) : OpR X (compareOp .In) (rInDic false) := by
  intro pins s σ H x y v u Q inv rx ry h
  obtain ⟨a, o, rfl, g, q⟩ := h
  obtain rfl : u = Value.ref a := ry
  refine d_in hu inv g rx fun s3 I3 => ⟨.bl o.isSome, H, I3, rfl, ?_⟩
  have e : (false != o.isSome) = o.isSome := by cases o <;> rfl
  rw [e] at q; exact q
theorem op_notInDic (hu : X.A.units + 1 < cLine) : OpR X (compareOp .NotIn) (rInDic true) := by
  intro pins s σ H x y v u Q inv rx ry h
  obtain ⟨a, o, rfl, g, q⟩ := h
  obtain rfl : u = Value.ref a := ry
  refine d_notIn hu inv g rx fun s3 I3 => ⟨.bl (!o.isSome), H, I3, rfl, ?_⟩
  have e : (true != o.isSome) = !o.isSome := by cases o <;> rfl
  rw [e] at q; exact q
def rInDp (K : PySem.W.Frag) (neg : Bool) : R2 := if neg then rNotInD K else rInD K
def rInAll (K : PySem.W.Frag) (neg : Bool) : R2 := fun x y H Q => (∃ (c : Nat) (z : Str), x = .str ⟨#[c]⟩ ∧ y = .str z ∧ Q (.bl (if neg then !decide (c ∈ z.cps.toList) else decide (c ∈ z.cps.toList))) H) ∨ rIn K neg x y H Q ∨ rInDic neg x y H Q ∨ rInDp K neg x y H Q
theorem op_inAll (hu : X.A.units + 65 < cLine) : OpR X (compareOp .In) (rInAll X.K false) := op_in_sign.or (op_in_seq.or ((op_inDic (by omega)).or (op_inD hu)))
theorem op_notInAll (hu : X.A.units + 65 < cLine) : OpR X (compareOp .NotIn) (rInAll X.K true) := op_notIn_sign.or (op_notIn_seq.or ((op_notInDic (by omega)).or (op_notInD hu)))
theorem str_one {a : Str} (h : a.length = 1) : ∃ c, a = ⟨#[c]⟩ := by
  obtain ⟨⟨l⟩⟩ := a
  match l, h with
  | [c], _ => exact ⟨c, rfl⟩
theorem oz_in {K : PySem.W.Frag} (neg : Bool) : OpZ K (rInAll K neg) (inP neg) := fun x y v u H M Q' Q sm rx ry q k => by
  have gen : (match seqOf y M with
    | some xs => (flatP x = true ∧ xs.all flatP = true) ∧ Q' (.bl (neg != inF x xs)) M
    | none => match dicOf y M with
      | some kvs => ∃ q, keyOf x = some q ∧ Q' (.bl (neg != (valZ kvs q).isSome)) M
      | none => False) → rInAll K neg v u H Q := fun q => by
    cases e : seqOf y M with
    | none =>
      rw [e] at q
      dsimp only at q
      cases e1 : dicOf y M with
      | none => rw [e1] at q; exact q.elim
      | some kvs =>
        rw [e1] at q
        obtain ⟨key, hk, q⟩ := q
        obtain ⟨a, ws, rfl, _, ha, rk⟩ := dic_of sm ry e1
        obtain rfl := keyOf_R rx hk
        refine .inr (.inr (.inl ⟨a, _, rfl, DGet.k ha, ?_⟩))
        rcases kr_val key rk with ⟨g1, g2⟩ | ⟨y', u', g1, g2, _⟩
        · rw [g1] at q; rw [g2]; exact k.now (x := .bl _) sm rfl q
        · rw [g1] at q; rw [g2]; exact k.now (x := .bl _) sm rfl q
    | some xs =>
      rw [e] at q
      obtain ⟨p, vs, rfl, sq, rs⟩ := seqOf_of sm ry e
      refine .inr (.inl ⟨p, vs, rfl, sq, flat_of rx q.1.1, allFlat_of rs q.1.2, ?_⟩)
      refine k.now (x := .bl (neg != inF x xs)) sm ?_ q.2
      show V.bl _ = V.bl _
      rw [inF_of rx q.1.1 rs q.1.2]
      cases neg <;> simp
  cases x with
  | str a => cases y with
    | str b =>
      obtain ⟨c, rfl⟩ := str_one q.1
      refine .inl ⟨c, b, rx, ry, ?_⟩
      refine k.now (x := .bl (neg != decide (some c ∈ b.cps.toList.map some))) sm ?_ q.2
      show V.bl _ = V.bl _
      have e : decide (some c ∈ List.map some b.cps.toList) = decide (c ∈ b.cps.toList) := by
        rw [decide_eq_decide]
        simp
      rw [e]
      cases neg <;> simp
    | _ => exact gen q
  | tup xs => cases y with
    | ref p =>
      cases e : seqOf (.ref p) M with
      | none =>
        refine gen ?_
        unfold inP at q
        dsimp only at q
        rw [e] at q ⊢
        exact q
      | some ys =>
        unfold inP at q
        dsimp only at q
        rw [e] at q
        dsimp only at q
        cases e1 : pd (.tup xs) with
        | none => rw [e1] at q; exact q.elim
        | some d =>
          cases e2 : pds ys with
          | none => rw [e1, e2] at q; exact q.elim
          | some ds =>
            rw [e1, e2] at q
            obtain ⟨⟨s1, s2⟩, q⟩ := q
            obtain rfl : u = .ref p := ry
            obtain ⟨vs, hl, rs⟩ := sm.lget e
            have b1 := dp_of _ _ _ e1 rx
            have b2 : Dp K H (V.ref p) (.list ds) := .lst hl (dps_of _ _ _ e2 rs)
            refine .inr (.inr (.inr ?_))
            cases neg with
            | false => exact ⟨d, ds, b1, b2, s1, s2, k.now (x := .bl (false != ds.any fun z => PyData.eqv z d)) sm (show V.bl _ = V.bl _ by congr 1; cases (ds.any fun z => PyData.eqv z d) <;> rfl) q⟩
            | true => exact ⟨d, ds, b1, b2, s1, s2, k.now (x := .bl (true != ds.any fun z => PyData.eqv z d)) sm (show V.bl _ = V.bl _ by congr 1; cases (ds.any fun z => PyData.eqv z d) <;> rfl) q⟩
    | _ => exact gen q
  | _ => cases y <;> exact gen q
def isP (neg : Bool) (x y : PV) (M : Mp) (Q : ZQ) : Prop := match x, y with
  | .non, .non => Q (.bl (neg != true)) M
  | _, .non => Q (.bl (neg != false)) M
  | _, _ => False
theorem isP_of {neg : Bool} {x y : PV} {M : Mp} {Q : ZQ} (h : isP neg x y M Q) : y = .non ∧ ((x = .non ∧ Q (.bl (neg != true)) M) ∨ (x ≠ .non ∧ Q (.bl (neg != false)) M)) := by
  cases y with
  | non => cases x <;> first | exact ⟨rfl, .inl ⟨rfl, h⟩⟩ | exact ⟨rfl, .inr ⟨fun z => (nomatch z), h⟩⟩
  | _ => cases x <;> exact h.elim
theorem R.non_iff {K : PySem.W.Frag} {H : Hp} {x : PV} {v : V} (r : R K H x v) : v = .non ↔ x = .non := by
  cases x with
  | tup xs =>
    obtain ⟨a, vs, rfl, _⟩ := r
    exact ⟨fun z => (by cases z), fun z => (by cases z)⟩
  | fl xs =>
    obtain ⟨a, vs, rfl, _⟩ := r
    exact ⟨fun z => (by cases z), fun z => (by cases z)⟩
  | ftu xs =>
    obtain ⟨a, vs, rfl, _⟩ := r
    exact ⟨fun z => (by cases z), fun z => (by cases z)⟩
  | _ =>
    have e : v = _ := r
    subst e
    constructor <;> intro z <;> first | rfl | cases z
theorem oz_is {K : PySem.W.Frag} : OpZ K (fun x y H Q => y = .non ∧ Q (.bl (decide (x = .non))) H) (isP false) := fun x y v u H M Q' Q sm rx ry q k => by
  obtain ⟨rfl, q1⟩ := isP_of q
  refine ⟨ry, ?_⟩
  rcases q1 with ⟨rfl, q⟩ | ⟨ne, q⟩
  · obtain rfl : v = .non := rx
    exact k.now (x := .bl (false != true)) sm rfl q
  · rw [decide_eq_false fun z => ne ((R.non_iff rx).mp z)]
    exact k.now (x := .bl (false != false)) sm rfl q
theorem oz_isnot {K : PySem.W.Frag} : OpZ K (fun x y H Q => y = .non ∧ Q (.bl (!decide (x = .non))) H) (isP true) := fun x y v u H M Q' Q sm rx ry q k => by
  obtain ⟨rfl, q1⟩ := isP_of q
  refine ⟨ry, ?_⟩
  rcases q1 with ⟨rfl, q⟩ | ⟨ne, q⟩
  · obtain rfl : v = .non := rx
    exact k.now (x := .bl (true != true)) sm rfl q
  · rw [decide_eq_false fun z => ne ((R.non_iff rx).mp z)]
    exact k.now (x := .bl (true != false)) sm rfl q
end
/-- < of ints and texts -/
def ltP (f : Int → Int → Bool) (g : Str → Str → Bool) (x y : PV) (M : Mp) (Q : ZQ) : Prop := match x, y with
  | .int i, .int j => Q (.bl (f i j)) M
  | .str i, .str j => Q (.bl (g i j)) M
  | _, _ => False
theorem oz_lt {K : PySem.W.Frag} {f : Int → Int → Bool} {g : Str → Str → Bool} : OpZ K (fun x y H Q => rI0 (fun i j => .bl (f i j)) x y H Q ∨ ∃ i j, x = .str i ∧ y = .str j ∧ Q (.bl (g i j)) H) (ltP f g) := fun x y v u H M Q' Q sm rx ry q k => by
  cases x with
  | int i => cases y with
    | int j => exact .inl ⟨i, j, rx, ry, k.now (x := .bl (f i j)) sm rfl q⟩
    | _ => exact q.elim
  | str i => cases y with
    | str j => exact .inr ⟨i, j, rx, ry, k.now (x := .bl (g i j)) sm rfl q⟩
    | _ => exact q.elim
  | _ => exact q.elim
def cmpP (op : CmpOp) : PV → PV → Mp → ZQ → Prop := match op with
  | .Eq => eqP false
  | .NotEq => eqP true
  | .Lt => ltP (fun i j => decide (i < j)) fun i j => decide (i.cps.toList < j.cps.toList)
  | .LtE => ltP (fun i j => decide (i ≤ j)) fun i j => !decide (j.cps.toList < i.cps.toList)
  | .Gt => ltP (fun i j => decide (j < i)) fun i j => decide (j.cps.toList < i.cps.toList)
  | .GtE => ltP (fun i j => decide (j ≤ i)) fun i j => !decide (i.cps.toList < j.cps.toList)
  | .In => inP false
  | .NotIn => inP true
  | .Is => isP false
  | .IsNot => isP true
theorem cmp_ok {X : Cx} (hu : X.A.units + 65 < cLine) (op : CmpOp) : ∃ r, OpR X (compareOp op) r ∧ OpZ X.K r (cmpP op) := by
  cases op with
  | Eq => exact ⟨_, op_eqAll (by omega), oz_eq⟩
  | NotEq => exact ⟨_, op_neAll (by omega), oz_ne⟩
  | Lt => exact ⟨_, op_lt.or op_lt_str, oz_lt⟩
  | LtE => exact ⟨_, op_le.or op_le_str, oz_lt⟩
  | Gt => exact ⟨_, op_gt.or op_gt_str, oz_lt⟩
  | GtE => exact ⟨_, op_ge.or op_ge_str, oz_lt⟩
  | In => exact ⟨_, op_inAll (by omega), oz_in false⟩
  | NotIn => exact ⟨_, op_notInAll (by omega), oz_in true⟩
  | Is => exact ⟨_, op_isN, oz_is⟩
  | IsNot => exact ⟨_, op_notN, oz_isnot⟩
end Zd

set_option Elab.async false
set_option linter.all false
set_option maxRecDepth 100000
set_option maxHeartbeats 4000000
/-! Zd 4: subscripts, slices, built-in functions and methods, by values. -/
namespace Zd
open PySem PySem.Spec PyProof.Rows L2

/-! ### t + u again: any tuples -/
def addP2 (x y : PV) (M : Mp) (Q : ZQ) : Prop := match x, y with
  | .int i, .int j => Q (.int (i + j)) M
  | .str a, .str b => a.length + b.length ≤ sizeLine ∧ Q (.str (a ++ b)) M
  | .tup xs, .tup ys => xs.length + ys.length ≤ sizeLine ∧ Q (.tup (xs ++ ys)) M
  | .ref p, .ref q => match M p, M q with
    | some (.lst xs), some (.lst ys) => newL M (xs ++ ys) Q
    | _, _ => False
  | _, _ => False
section
variable {K : PySem.W.Frag} {P H : Hp}
theorem Rs.nil_iff {xs : List PV} {vs : List V} (r : Rs K H xs vs) : vs = [] ↔ xs = [] := by
  have h := r.length
  constructor
  · rintro rfl; exact List.eq_nil_of_length_eq_zero h.symm
  · rintro rfl; exact List.eq_nil_of_length_eq_zero h
def rAdd2 (K : PySem.W.Frag) : R2 := fun x y H Q => (∃ i j, x = .int i ∧ y = .int j ∧ Q (.int (i + j)) H) ∨ (∃ i j, x = .str i ∧ y = .str j ∧ i.length + j.length ≤ sizeLine ∧ Q (.str (i ++ j)) H) ∨ rCatA K x y H Q ∨ rCat x y H Q
theorem op_add2 {X : Cx} : OpR X (binaryOp .Add) (rAdd2 X.K) := op_add.or (op_add_str.or (op_catA.or op_cat))
theorem oz_add2 : OpZ K (rAdd2 K) addP2 := fun x y v u H M Q' Q sm rx ry q k => by
  cases x with
  | int i => cases y with
    | int j => exact .inl ⟨i, j, rx, ry, k.now (x := .int (i + j)) sm rfl q⟩
    | _ => exact q.elim
  | str i => cases y with
    | str j => exact .inr (.inl ⟨i, j, rx, ry, q.1, k.now (x := .str (i ++ j)) sm rfl q.2⟩)
    | _ => exact q.elim
  | tup xs => cases y with
    | tup ys =>
      obtain ⟨a, vs, rfl, sa, ra⟩ := rx
      obtain ⟨b, ws, rfl, sb, rb⟩ := ry
      refine .inr (.inr (.inl ⟨a, b, vs, ws, rfl, rfl, sa, sb, ?_, fun z => ?_, fun z1 z => ?_, fun _ _ p hp => ?_⟩))
      · rw [ra.length, rb.length]; exact q.1
      · obtain rfl := ra.nil_iff.mp z
        exact k.now (x := .tup ([] ++ ys)) sm ⟨b, ws, rfl, sb, rb⟩ q.2
      · obtain rfl := rb.nil_iff.mp z
        exact k.now (x := .tup (xs ++ [])) sm ⟨a, vs, rfl, sa, by rw [List.append_nil]; exact ra⟩ q.2
      · exact k _ _ _ _ (Le.new hp) (sm.new_tup hp) (R.tupNew (ra.append rb) hp) q.2
    | _ => exact q.elim
  | ref p => cases y with
    | ref b =>
      obtain rfl : v = .ref p := rx
      obtain rfl : u = .ref b := ry
      dsimp only [addP2] at q
      split at q
      · rename_i xs ys e1 e2
        obtain ⟨vs, h1, r1⟩ := sm.lst e1
        obtain ⟨ws, h2, r2⟩ := sm.lst e2
        refine .inr (.inr (.inr ⟨p, b, vs, ws, rfl, rfl, h1, h2, ?_, fun l hl => newL_of sm (r1.append r2) q k hl⟩))
        rw [r1.length, r2.length, ← List.length_append]; exact q.1
      · exact q.elim
    | _ => exact q.elim
  | _ => exact q.elim
end
def bin2 (op : Operator) : PV → PV → Mp → ZQ → Prop := match op with
  | .Add => addP2
  | op => binP op
theorem bin2_ok {X : Cx} (op : Operator) : ∃ r, OpR X (binaryOp op) r ∧ OpZ X.K r (bin2 op) := by
  cases op with
  | Add => exact ⟨_, op_add2, oz_add2⟩
  | _ => exact bin_ok _
/-! ### subscripts -/
theorem Rs.atI {K : PySem.W.Frag} {H : Hp} {xs : List PV} {vs : List V} {i : Int} {x : PV} (r : Rs K H xs vs) (e : atI xs i = some x) : ∃ v, L2.atI vs i = some v ∧ R K H x v := by
  unfold L2.atI at e ⊢
  rw [r.length]
  cases h : ixN xs.length i with
  | none => rw [h] at e; cases e
  | some j =>
    rw [h] at e
    exact r.get e
/-- at an index of any sign -/
def ixP (x y : PV) (M : Mp) (Q : ZQ) : Prop := match x, y with
  | .tup xs, .int i => match atI xs i with
    | some z => Q z M
    | none => False
  | .ref p, y => match lget M p with
    | some xs => match y with
      | .int i => match atI xs i with
        | some z => Q z M
        | none => False
      | _ => False
    | none => match dicOf (.ref p) M with
      | some kvs => ∃ q z, keyOf y = some q ∧ valZ kvs q = some z ∧ Q z M
      | none => False
  | .str z, .int i => z.length ≤ sizeLine ∧ match atI z.cps.toList i with
    | some c => Q (.str ⟨#[c]⟩) M
    | none => False
  | _, _ => False
def rIxDic : R2 := fun x y H Q => ∃ a v, x = .ref a ∧ DGet H a y (some v) ∧ Q v H
open AutoSeq1 in
theorem ix_dic {X : Cx} (hu : X.A.units + 1 < cLine) : IxR X rIxDic := by
  intro value slice pins s σ H x y v u Q inv rx ry q hs
  obtain ⟨a, z, rfl, g, q⟩ := q
  obtain rfl : v = Value.ref a := rx
  have hT := dict_typeIs inv g
  have get := d_getItem (A := X.A) (E := X.xe) (Q := EP X pins σ Q) hu inv g ry fun w' s3 I3 rw' => ⟨z, H, I3, rw', q⟩
  unfold subscriptTail
  apply wpAny_bind
  rw [getitemInPython_of_ne hT.not_modules]
  apply wpAny_bind
  apply wpAny_specialOf hT PySem.F.slot_dict_getitem.lookup
  have rest : wpAny (model X.prog X.w) X.A (subscripted slice false (.ref a) u) (fun r s₃ => wpAny (model X.prog X.w) X.A (letTemporaryGo value (.ref a) r >>= fun _ => pure r) (EP X pins σ Q) X.xe s₃) X.xe s := by
    rw [hs]
    exact wpAny_operating (wpAny_mono get (fun r s₃ h₃ => wpAny_bind (wpAny_letTemporaryGo (wpAny_pure h₃))) fun _ _ x => x)
  first
    | exact wpAny_pure (wpAny_bind rest)
    | exact wpAny_bind (wpAny_pure (wpAny_bind rest))
    | exact wpAny_bind rest
def rIx2 (K : PySem.W.Frag) : R2 := fun x y H Q => rIx K x y H Q ∨ rIxDic x y H Q
theorem oz_ix {K : PySem.W.Frag} : OpZ K (rIx2 K) ixP := fun x y v u H M Q' Q sm rx ry q k => by
  cases x with
  | tup xs => cases y with
    | int i =>
      obtain ⟨a, vs, rfl, sa, ra⟩ := rx
      dsimp only [ixP] at q
      split at q
      · rename_i z e
        obtain ⟨w, h1, h2⟩ := ra.atI e
        exact .inl (.inr (.inl ⟨a, vs, i, w, rfl, ry, sa, h1, k.now sm h2 q⟩))
      · exact q.elim
    | _ => exact q.elim
  | ref p =>
    obtain rfl : v = .ref p := rx
    cases e0 : lget M p with
    | some xs =>
      cases y with
      | int i =>
        dsimp only [ixP] at q
        rw [e0] at q
        dsimp only at q
        split at q
        · rename_i z e
          obtain ⟨vs, sa, ra⟩ := sm.lget e0
          obtain ⟨w, h1, h2⟩ := ra.atI e
          exact .inl (.inl ⟨p, vs, i, w, rfl, ry, sa, h1, k.now sm h2 q⟩)
        · exact q.elim
      | _ => dsimp only [ixP] at q; rw [e0] at q; exact q.elim
    | none =>
      have q2 : (match dicOf (.ref p) M with
        | some kvs => ∃ q z, keyOf y = some q ∧ valZ kvs q = some z ∧ Q' z M
        | none => False) := by
        cases y <;> (dsimp only [ixP] at q; rw [e0] at q; exact q)
      cases e1 : dicOf (.ref p) M with
      | none => rw [e1] at q2; exact q2.elim
      | some kvs =>
        rw [e1] at q2
        obtain ⟨key, z, hk, hz, q2⟩ := q2
        obtain ⟨a, ws, ea, ea2, ha, rk⟩ := dic_of (d := .ref p) (v := .ref p) sm rfl e1
        cases ea
        obtain rfl := keyOf_R ry hk
        rcases kr_val key rk with ⟨g1, g2⟩ | ⟨y', u', g1, g2, ru⟩
        · rw [g1] at hz; cases hz
        · rw [g1] at hz; cases hz
          exact .inr ⟨p, u', rfl, by rw [← g2]; exact DGet.k ha, k.now sm ru q2⟩
  | str z => cases y with
    | int i =>
      obtain ⟨hz, q⟩ := q
      split at q
      · rename_i c e
        exact .inl (.inr (.inr ⟨z, i, c, rx, ry, hz, e, k.now (x := .str ⟨#[c]⟩) sm rfl q⟩))
      · exact q.elim
    | _ => exact q.elim
  | _ => cases y <;> exact q.elim
theorem we_ix {X : Cx} {W : L2.WX} {a b : Expr} {wa wb : ZWe} {pos : Pos} (hu : X.A.units + 1 < cLine) (ha : WE X W a wa) (hb : WE X W b wb) (hs : PlainIx b) : WE X W (.Subscript a b pos) (wBin ixP wa wb) :=
  PE.imp (pe_ix (ix_seq.or (ix_dic hu)) ha hb hs) fun _ _ _ h => lift_bin oz_ix h
/-! ### slices -/
def cutP (xs : List PV) (lo hi : Option Int) : List PV := (xs.drop (HT.sIx xs.length 0 lo)).take (HT.sIx xs.length xs.length hi - HT.sIx xs.length 0 lo)
theorem Rs.cut {K : PySem.W.Frag} {H : Hp} {xs : List PV} {vs : List V} (r : Rs K H xs vs) (lo hi : Option Int) : Rs K H (cutP xs lo hi) (cutV vs lo hi) := by
  unfold cutP cutV
  rw [r.length]
  exact Rs.take _ (Rs.drop _ r)
theorem cutP_length (xs : List PV) (lo hi : Option Int) : (cutP xs lo hi).length ≤ xs.length := by
  unfold cutP
  rw [List.length_take, List.length_drop]
  omega
theorem cutP_whole {xs : List PV} {lo hi : Option Int} (h1 : HT.sIx xs.length 0 lo = 0) (h2 : HT.sIx xs.length xs.length hi = xs.length) : cutP xs lo hi = xs := by
  unfold cutP
  rw [h1, h2, List.drop_zero, Nat.sub_zero, List.take_length]
def slP (x : PV) (lo hi : Option Int) (M : Mp) (Q : ZQ) : Prop := match x with
  | .tup xs => Q (.tup (cutP xs lo hi)) M
  | .ref p => match lget M p with
    | some xs => ∀ p, M p = none → Q (.ref p) (mu M p (.lst (cutP xs lo hi)))
    | none => False
  | .str z => z.length ≤ sizeLine ∧ Q (.str (cutS z lo hi)) M
  | .fl xs => ∀ p, M p = none → Q (.ref p) (mu M p (.lst (cutP xs lo hi)))
  | _ => False
def rSlAll (K : PySem.W.Frag) : V → Option Int → Option Int → Hp → VK → Prop := fun x lo hi H Q => rSlA K x lo hi H Q ∨ rSlL K x lo hi H Q ∨ rSlS x lo hi H Q
theorem sl_all {X : Cx} : SlR X (rSlAll X.K) := sl_tupA.or (sl_list.or sl_str)
theorem slP_of {K : PySem.W.Frag} {P H : Hp} {M : Mp} {x : PV} {v : V} {lo hi : Option Int} {Q' : ZQ} {Q : VK} (sm : SRm K P H M) (rx : R K H x v) (q : slP x lo hi M Q') (k : Cont K P H Q' Q) : rSlAll K v lo hi H Q := by
  cases x with
  | tup xs =>
    obtain ⟨a, vs, rfl, sa, ra⟩ := rx
    refine .inl ⟨a, vs, rfl, sa, fun z => ?_, fun _ p hp => ?_⟩
    · have q : Q' (.tup (cutP xs lo hi)) M := q
      rw [ra.length] at z
      rw [cutP_whole z.1 z.2] at q
      exact k.now (x := .tup xs) sm ⟨a, vs, rfl, sa, ra⟩ q
    · exact k _ _ _ _ (Le.new hp) (sm.new_tup hp) (R.tupNew (ra.cut lo hi) hp) q
  | ref p =>
    obtain rfl : v = .ref p := rx
    dsimp only [slP] at q
    split at q
    · rename_i xs e
      obtain ⟨vs, sa, ra⟩ := sm.lget e
      exact .inr (.inl ⟨p, vs, rfl, sa, fun l hl => k _ _ (.ref l) _ (Le.new hl) (sm.new_lst hl (ra.cut lo hi)) rfl (q l (sm.fresh hl))⟩)
    · exact q.elim
  | str z => exact .inr (.inr ⟨z, rx, q.1, k.now (x := .str (cutS z lo hi)) sm rfl q.2⟩)
  | fl xs =>
    obtain ⟨a, vs, rfl, sa, ra⟩ := rx
    exact .inr (.inl ⟨a, vs, rfl, sa.sq, fun l hl => k _ _ (.ref l) _ (Le.new hl) (sm.new_lst hl (ra.cut lo hi)) rfl (q l (sm.fresh hl))⟩)
  | _ => exact q.elim
abbrev ZWo := ZX → Tau → Mp → (Option Int → Mp → Prop) → Prop
def liftO (K : PySem.W.Frag) (mg : Gm) (W : L2.WX) (w : ZWo) : TO := fun σ H Q => ∃ P E τ M Q', SRt K σ H τ ∧ SRm K P H M ∧ w E τ M Q' ∧ (∀ o H' M', Le H H' → SRm K P H' M' → Q' o M' → Q o H') ∧ Exl K P mg W σ H E
theorem PO.imp {X : Cx} {e : Option Expr} {t t' : TO} (h : PO X e t) (i : ∀ σ H Q, t' σ H Q → t σ H Q) : PO X e t' := ⟨fun pins s σ H Q I q => h.run pins s σ H Q I (i _ _ _ q)⟩
abbrev WO (X : Cx) (W : L2.WX) (e : Option Expr) (w : ZWo) : Prop := PO X e (liftO X.K X.mg W w)
def wPart (wa : ZWe) : ZWo := fun E τ M Q => wa E τ M fun x M1 => match x with
  | .int i => Q (some i) M1
  | _ => False
def wNoPart : ZWo := fun _ _ M Q => Q none M
section
variable {X : Cx} {W : L2.WX} {a b e : Expr} {es : List Expr} {wa wb : ZWe} {pos p2 : Pos} {lo hi : Option Expr} {wl wh : ZWo}
theorem wo_none : WO X W none wNoPart := PO.imp po_none fun σ H Q h => by
  obtain ⟨P, E, τ, M, Q', st, sm, hw, hc, hE⟩ := h
  exact hc none H M Le.refl sm hw
theorem wo_some (ha : WE X W a wa) : WO X W (some a) (wPart wa) := PO.imp (po_some ha) fun σ H Q h => by
  obtain ⟨P, E, τ, M, Q', st, sm, hw, hc, hE⟩ := h
  refine ⟨P, E, τ, M, _, st, sm, hw, fun v H1 x M1 l1 sm1 r1 h1 => ?_, hE⟩
  cases x with
  | int i => exact ⟨i, r1, hc _ _ _ l1 sm1 h1⟩
  | _ => exact h1.elim
def wSl (wa : ZWe) (wl wh : ZWo) : ZWe := fun E τ M Q => wa E τ M fun x M1 => wl E τ M1 fun l M2 => wh E τ M2 fun h M3 => slP x l h M3 Q
theorem we_sl (ha : WE X W a wa) (hl : WO X W lo wl) (hh : WO X W hi wh) : WE X W (.Subscript a (.Slice lo hi none p2) pos) (wSl wa wl wh) := PE.imp (pe_slice sl_all ha hl hh) fun σ H Q h => by
  obtain ⟨P, E, τ, M, Q', st, sm, hw, hc, hE⟩ := h
  refine ⟨P, E, τ, M, _, st, sm, hw, fun v H1 x M1 l1 sm1 r1 h1 => ?_, hE⟩
  refine ⟨P, E, τ, M1, _, st.mono l1, sm1, h1, fun o H2 M2 l2 sm2 h2 => ?_, hE.mono l1⟩
  refine ⟨P, E, τ, M2, _, st.mono (l1.trans l2), sm2, h2, fun o' H3 M3 l3 sm3 h3 => ?_, hE.mono (l1.trans l2)⟩
  exact slP_of sm3 (R.mono (l2.trans l3) _ _ r1) h3 (hc.mono ((l1.trans l2).trans l3))
end
/-! ### built-in functions -/
def lenP (xs : List PV) (M : Mp) (Q : ZQ) : Prop := match xs with
  | [.tup ys] => Q (.int ys.length) M
  | [.str z] => z.length ≤ sizeLine ∧ Q (.int z.length) M
  | [.ref p] => match lget M p with
    | some ys => Q (.int ys.length) M
    | none => False
  | _ => False
section
variable {K : PySem.W.Frag} {P H : Hp}
theorem Rs.of1 {x : PV} {vs : List V} (r : Rs K H [x] vs) : ∃ v, vs = [v] ∧ R K H x v := by
  obtain ⟨v, ws, rfl, r1, r2⟩ := r
  have e : ws = [] := r2
  subst e
  exact ⟨v, rfl, r1⟩
theorem Rs.of2 {x y : PV} {vs : List V} (r : Rs K H [x, y] vs) : ∃ v u, vs = [v, u] ∧ R K H x v ∧ R K H y u := by
  obtain ⟨v, ws, rfl, r1, r2⟩ := r
  obtain ⟨u, rfl, r3⟩ := Rs.of1 r2
  exact ⟨v, u, rfl, r1, r3⟩
theorem Rs.of0 {vs : List V} (r : Rs K H [] vs) : vs = [] := r
theorem cz_len : CallZ K (fun xs H Q => ∃ x n, xs = [x] ∧ LenV K x H n ∧ Q (.int n) H) lenP := fun xs vs H M Q' Q sm rx q k => by
  unfold lenP at q
  split at q
  · obtain ⟨v, rfl, a, ws, rfl, sa, ra⟩ := Rs.of1 rx
    refine ⟨_, _, rfl, .inr ⟨ws, sa, rfl⟩, ?_⟩
    rw [ra.length]
    exact k.now (x := .int _) sm rfl q
  · obtain ⟨v, rfl, r⟩ := Rs.of1 rx
    obtain rfl := R.of_str r
    exact ⟨_, _, rfl, ⟨q.1, rfl⟩, k.now (x := .int _) sm rfl q.2⟩
  · obtain ⟨v, rfl, r⟩ := Rs.of1 rx
    obtain rfl := R.of_ref r
    split at q
    · rename_i ys e
      obtain ⟨ws, sa, ra⟩ := sm.lget e
      refine ⟨_, _, rfl, .inl ⟨ws, sa, rfl⟩, ?_⟩
      rw [ra.length]
      exact k.now (x := .int _) sm rfl q
    · exact q.elim
  · exact q.elim
def i1P (f : Int → Int) (xs : List PV) (M : Mp) (Q : ZQ) : Prop := match xs with
  | [.int i] => Q (.int (f i)) M
  | _ => False
def i2P (f : Int → Int → Int) (xs : List PV) (M : Mp) (Q : ZQ) : Prop := match xs with
  | [.int i, .int j] => Q (.int (f i j)) M
  | _ => False
theorem cz_abs : CallZ K (fun xs H Q => ∃ i, xs = [.int i] ∧ Q (.int (if i < 0 then -i else i)) H) (i1P fun i => if i < 0 then -i else i) := fun xs vs H M Q' Q sm rx q k => by
  unfold i1P at q
  split at q
  · rename_i i
    obtain ⟨v, rfl, r⟩ := Rs.of1 rx
    obtain rfl := R.of_int r
    exact ⟨_, rfl, k.now (x := .int _) sm rfl q⟩
  · exact q.elim
theorem cz_i2 {f : Int → Int → Int} : CallZ K (fun xs H Q => ∃ i j, xs = [.int i, .int j] ∧ Q (.int (f i j)) H) (i2P f) := fun xs vs H M Q' Q sm rx q k => by
  unfold i2P at q
  split at q
  · obtain ⟨v, u, rfl, r, r2⟩ := Rs.of2 rx
    obtain rfl := R.of_int r
    obtain rfl := R.of_int r2
    exact ⟨_, _, rfl, k.now (x := .int _) sm rfl q⟩
  · exact q.elim
def intP (xs : List PV) (M : Mp) (Q : ZQ) : Prop := match xs with
  | [.int i] => Q (.int i) M
  | [.bl b] => Q (.int (if b then 1 else 0)) M
  | _ => False
theorem cz_int : CallZ K (fun xs H Q => (∃ i, xs = [.int i] ∧ Q (.int i) H) ∨ ∃ k, xs = [.bl k] ∧ Q (.int (if k then 1 else 0)) H) intP := fun xs vs H M Q' Q sm rx q k => by
  unfold intP at q
  split at q
  · obtain ⟨v, rfl, r⟩ := Rs.of1 rx
    obtain rfl := R.of_int r
    exact .inl ⟨_, rfl, k.now (x := .int _) sm rfl q⟩
  · obtain ⟨v, rfl, r⟩ := Rs.of1 rx
    obtain rfl := R.of_bl r
    exact .inr ⟨_, rfl, k.now (x := .int _) sm rfl q⟩
  · exact q.elim
def tupleP (xs : List PV) (M : Mp) (Q : ZQ) : Prop := match xs with
  | [x] => match seqOf x M with
    | some ys => Q (.tup ys) M
    | none => False
  | _ => False
def listP (xs : List PV) (M : Mp) (Q : ZQ) : Prop := match xs with
  | [x] => match seqOf x M with
    | some ys => ∀ p, M p = none → Q (.ref p) (mu M p (.lst ys))
    | none => False
  | _ => False
theorem cz_tuple : CallZ K (fun xs H Q => ∃ p ys, xs = [.ref p] ∧ ((SqL K H p ys ∧ ∀ l, H l = none → Q (.ref l) (upd H l (.tup ys))) ∨ (SqT K H p ys ∧ Q (.ref p) H))) tupleP := fun xs vs H M Q' Q sm rx q k => by
  unfold tupleP at q
  split at q
  · rename_i x
    obtain ⟨v, rfl, r⟩ := Rs.of1 rx
    split at q
    · rename_i ys e
      cases x with
      | tup zs =>
        cases e
        obtain ⟨a, ws, rfl, sa, ra⟩ := r
        exact ⟨a, ws, rfl, .inr ⟨sa, k.now (x := .tup ys) sm ⟨a, ws, rfl, sa, ra⟩ q⟩⟩
      | ref p =>
        obtain rfl := R.of_ref r
        obtain ⟨ws, sa, ra⟩ := sm.lget e
        exact ⟨p, ws, rfl, .inl ⟨sa, fun l hl => k _ _ _ _ (Le.new hl) (sm.new_tup hl) (R.tupNew ra hl) q⟩⟩
      | _ => cases e
    · exact q.elim
  · exact q.elim
theorem cz_list : CallZ K (fun xs H Q => ∃ p ys, xs = [.ref p] ∧ (SqL K H p ys ∨ SqT K H p ys) ∧ ∀ l, H l = none → Q (.ref l) (upd H l (.lst ys))) listP := fun xs vs H M Q' Q sm rx q k => by
  unfold listP at q
  split at q
  · rename_i x
    obtain ⟨v, rfl, r⟩ := Rs.of1 rx
    split at q
    · rename_i ys e
      obtain ⟨p, ws, rfl, sq, rs⟩ := seqOf_of sm r e
      exact ⟨p, ws, rfl, sq, fun l hl => k _ _ (.ref l) _ (Le.new hl) (sm.new_lst hl rs) rfl (q l (sm.fresh hl))⟩
    · exact q.elim
  · exact q.elim
end
/-- all zints -/
def zints : List PV → Option (List Int)
  | [] => some []
  | .int i :: r => (zints r).map (i :: ·)
  | _ :: _ => none
theorem zints_of : ∀ {xs : List PV} {ns : List Int}, zints xs = some ns → xs = ns.map PV.int
  | [], _, h => by cases h; rfl
  | .int i :: r, ns, h => by
    rw [zints] at h
    cases e : zints r with
    | none => rw [e] at h; cases h
    | some ms => rw [e] at h; cases h; rw [zints_of e]; rfl
  | .non :: _, _, h => by cases h
  | .bl _ :: _, _, h => by cases h
  | .str _ :: _, _, h => by cases h
  | .tup _ :: _, _, h => by cases h
  | .ref _ :: _, _, h => by cases h
  | .ty _ :: _, _, h => by cases h
theorem zints_map : ∀ ns : List Int, zints (ns.map PV.int) = some ns
  | [] => rfl
  | n :: r => by rw [List.map_cons, zints, zints_map r]; rfl
def sumP (xs : List PV) (M : Mp) (Q : ZQ) : Prop := match xs with
  | [.ref p] => match (lget M p).bind zints with
    | some ns => Q (.int ns.sum) M
    | none => False
  | _ => False
def maxL (ns : List Int) : Int := ns.foldl max (ns.headD 0)
def minL (ns : List Int) : Int := ns.foldl min (ns.headD 0)
theorem foldl_max_spec : ∀ (ns : List Int) (a : Int), (∀ y ∈ ns, y ≤ ns.foldl max a) ∧ a ≤ ns.foldl max a ∧ (ns.foldl max a = a ∨ ns.foldl max a ∈ ns)
  | [], a => ⟨fun _ h => by simp at h, Int.le_refl _, .inl rfl⟩
  | n :: r, a => by
    obtain ⟨h1, h2, h3⟩ := foldl_max_spec r (max a n)
    rw [List.foldl_cons]
    refine ⟨fun y hy => ?_, by omega, ?_⟩
    · rcases List.mem_cons.mp hy with rfl | hy
      · omega
      · exact h1 y hy
    · rcases h3 with h3 | h3
      · rw [h3]
        by_cases h : a ≤ n
        · right; rw [Int.max_eq_right h]; exact List.mem_cons_self
        · left; exact Int.max_eq_left (by omega)
      · exact .inr (List.mem_cons_of_mem _ h3)
theorem foldl_min_spec : ∀ (ns : List Int) (a : Int), (∀ y ∈ ns, ns.foldl min a ≤ y) ∧ ns.foldl min a ≤ a ∧ (ns.foldl min a = a ∨ ns.foldl min a ∈ ns)
  | [], a => ⟨fun _ h => by simp at h, Int.le_refl _, .inl rfl⟩
  | n :: r, a => by
    obtain ⟨h1, h2, h3⟩ := foldl_min_spec r (min a n)
    rw [List.foldl_cons]
    refine ⟨fun y hy => ?_, by omega, ?_⟩
    · rcases List.mem_cons.mp hy with rfl | hy
      · omega
      · exact h1 y hy
    · rcases h3 with h3 | h3
      · rw [h3]
        by_cases h : n ≤ a
        · right; rw [Int.min_eq_right h]; exact List.mem_cons_self
        · left; exact Int.min_eq_left (by omega)
      · exact .inr (List.mem_cons_of_mem _ h3)
theorem maxL_mem {ns : List Int} (h : ns ≠ []) : maxL ns ∈ ns := by
  cases ns with
  | nil => exact absurd rfl h
  | cons n r =>
    rcases (foldl_max_spec (n :: r) n).2.2 with e | e
    · unfold maxL; rw [List.headD_cons, e]; exact List.mem_cons_self
    · exact e
theorem maxL_le {ns : List Int} {y : Int} (h : y ∈ ns) : y ≤ maxL ns := (foldl_max_spec ns _).1 y h
theorem minL_mem {ns : List Int} (h : ns ≠ []) : minL ns ∈ ns := by
  cases ns with
  | nil => exact absurd rfl h
  | cons n r =>
    rcases (foldl_min_spec (n :: r) n).2.2 with e | e
    · unfold minL; rw [List.headD_cons, e]; exact List.mem_cons_self
    · exact e
theorem minL_le {ns : List Int} {y : Int} (h : y ∈ ns) : minL ns ≤ y := (foldl_min_spec ns _).1 y h
def maxP (xs : List PV) (M : Mp) (Q : ZQ) : Prop := match xs with
  | [.int i, .int j] => Q (.int (if j > i then j else i)) M
  | [.ref p] => match (lget M p).bind zints with
    | some ns => ns ≠ [] ∧ Q (.int (maxL ns)) M
    | none => False
  | _ => False
def minP (xs : List PV) (M : Mp) (Q : ZQ) : Prop := match xs with
  | [.int i, .int j] => Q (.int (if j < i then j else i)) M
  | [.ref p] => match (lget M p).bind zints with
    | some ns => ns ≠ [] ∧ Q (.int (minL ns)) M
    | none => False
  | _ => False
section
variable {K : PySem.W.Frag} {P H : Hp} {M : Mp}
theorem SRm.ints {p : Addr} {ns : List Int} (s : SRm K P H M) (e : (Zd.lget M p).bind Zd.zints = some ns) : SqL K H p (ns.map V.int) := by
  cases q : Zd.lget M p with
  | none => rw [q] at e; cases e
  | some xs =>
    rw [q] at e
    obtain rfl := zints_of (show Zd.zints xs = some ns from e)
    obtain ⟨vs, h, r⟩ := s.lget q
    rw [r.toInt] at h
    exact h
theorem cz_sum : CallZ K (rSum K) sumP := fun xs vs H M Q' Q sm rx q k => by
  unfold sumP at q
  split at q
  · rename_i p
    obtain ⟨v, rfl, r⟩ := Rs.of1 rx
    obtain rfl := R.of_ref r
    split at q
    · rename_i ns e
      exact ⟨p, ns, rfl, sm.ints e, k.now (x := .int _) sm rfl q⟩
    · exact q.elim
  · exact q.elim
def rMaxAll (K : PySem.W.Frag) : List V → Hp → VK → Prop := fun xs H Q => (∃ i j, xs = [.int i, .int j] ∧ Q (.int (if j > i then j else i)) H) ∨ rMax K xs H Q
def rMinAll (K : PySem.W.Frag) : List V → Hp → VK → Prop := fun xs H Q => (∃ i j, xs = [.int i, .int j] ∧ Q (.int (if j < i then j else i)) H) ∨ rMin K xs H Q
theorem pos_len {ns : List Int} (h : ns ≠ []) : 0 < ns.length := by cases ns <;> simp_all
theorem cz_max : CallZ K (rMaxAll K) maxP := fun xs vs H M Q' Q sm rx q k => by
  unfold maxP at q
  split at q
  · obtain ⟨v, u, rfl, r, r2⟩ := Rs.of2 rx
    obtain rfl := R.of_int r
    obtain rfl := R.of_int r2
    exact .inl ⟨_, _, rfl, k.now (x := .int _) sm rfl q⟩
  · rename_i p
    obtain ⟨v, rfl, r⟩ := Rs.of1 rx
    obtain rfl := R.of_ref r
    split at q
    · rename_i ns e
      refine .inr ⟨p, ns, rfl, sm.ints e, pos_len q.1, fun m h1 h2 => ?_⟩
      have e : m = maxL ns := Int.le_antisymm (maxL_le h1) (h2 _ (maxL_mem q.1))
      rw [e]
      exact k.now (x := .int _) sm rfl q.2
    · exact q.elim
  · exact q.elim
theorem cz_min : CallZ K (rMinAll K) minP := fun xs vs H M Q' Q sm rx q k => by
  unfold minP at q
  split at q
  · obtain ⟨v, u, rfl, r, r2⟩ := Rs.of2 rx
    obtain rfl := R.of_int r
    obtain rfl := R.of_int r2
    exact .inl ⟨_, _, rfl, k.now (x := .int _) sm rfl q⟩
  · rename_i p
    obtain ⟨v, rfl, r⟩ := Rs.of1 rx
    obtain rfl := R.of_ref r
    split at q
    · rename_i ns e
      refine .inr ⟨p, ns, rfl, sm.ints e, pos_len q.1, fun m h1 h2 => ?_⟩
      have e : m = minL ns := Int.le_antisymm (h2 _ (minL_mem q.1)) (minL_le h1)
      rw [e]
      exact k.now (x := .int _) sm rfl q.2
    · exact q.elim
  · exact q.elim
end
/-! ### isinstance -/
def pty (x : PV) (M : Mp) : Option String := match x with
  | .non => some "NoneType"
  | .bl _ => some "bool"
  | .int _ => some "int"
  | .str _ => some "str"
  | .tup _ => some "tuple"
  | .ref p => match M p with
    | some (.lst _) => some "list"
    | some (.rol _) => some "list"
    | some (.dic _) => some "dict"
    | _ => none
  | .ty _ => none
  | .fl _ => none
  | .ftu _ => none
def isiB (a b : String) : Option Bool :=
  if a = b then some true else if a = "bool" ∧ b = "int" then some true
  else if (a = "NoneType" ∨ a = "bool" ∨ a = "int" ∨ a = "str" ∨ a = "tuple" ∨ a = "list" ∨ a = "dict") ∧ (b = "bool" ∨ b = "int" ∨ b = "str" ∨ b = "tuple" ∨ b = "list" ∨ b = "dict") then some false else none
theorem isiB_ok {a b : String} {r : Bool} (h : isiB a b = some r) : kitB a b = some r := by
  unfold isiB at h
  split at h
  · rename_i e; subst e; cases h; unfold kitB; rw [if_pos (by simp)]
  · split at h
    · rename_i e; obtain ⟨rfl, rfl⟩ := e; cases h; decide +kernel
    · split at h
      · rename_i n1 n2 e
        cases h
        obtain ⟨e1, e2⟩ := e
        rcases e1 with rfl | rfl | rfl | rfl | rfl | rfl | rfl <;> rcases e2 with rfl | rfl | rfl | rfl | rfl | rfl <;> first | exact absurd rfl n1 | exact absurd ⟨rfl, rfl⟩ n2 | decide +kernel
      · cases h
def isiP (xs : List PV) (M : Mp) (Q : ZQ) : Prop := match xs with
  | [x, .ty c] => match (pty x M).bind (isiB · c) with
    | some b => Q (.bl b) M
    | none => False
  | _ => False
section
variable {K : PySem.W.Frag} {P H : Hp} {M : Mp}
theorem tyX_of {x : PV} {v : V} {t : String} (s : SRm K P H M) (r : R K H x v) (e : pty x M = some t) : TyX K H v (.type t) := by
  cases x with
  | non => obtain rfl := R.of_non r; cases e; exact .base .non
  | bl b => obtain rfl := R.of_bl r; cases e; exact .base (.bl b)
  | int b => obtain rfl := R.of_int r; cases e; exact .base (.int b)
  | str b => obtain rfl := R.of_str r; cases e; exact .base (.str b)
  | tup xs =>
    obtain ⟨a, vs, rfl, sa, ra⟩ := r
    cases e
    rcases sa with (sa | ⟨o, sa⟩) | ⟨o, its, n, h1, h2, _⟩
    · exact .base (.tup sa)
    · exact .fTuple sa
    · exact .kTuple h1 h2
  | ref p =>
    obtain rfl := R.of_ref r
    dsimp only [pty] at e
    split at e
    · rename_i xs q
      cases e
      obtain ⟨vs, h, _⟩ := s.lst q
      exact .base (.lst h)
    · rename_i xs q
      cases e
      obtain ⟨o, vs, h, _⟩ := s.ok p _ q
      exact .base (.frz h)
    · rename_i xs q
      cases e
      obtain ⟨vs, h, _⟩ := s.dic q
      exact .base (.dK h)
    · cases e
  | fl _ => cases e
  | ftu _ => cases e
  | ty n => cases e
theorem cz_isi : CallZ K (rIsi K) isiP := fun xs vs H M Q' Q sm rx q k => by
  unfold isiP at q
  split at q
  · rename_i x c
    obtain ⟨v, u, rfl, r, r2⟩ := Rs.of2 rx
    obtain rfl := R.of_ty r2
    split at q
    · rename_i b e
      cases h : pty x M with
      | none => rw [h] at e; cases e
      | some t =>
        rw [h] at e
        exact ⟨v, .ty c, .type t, .type c, b, rfl, .ty c, tyX_of sm r h, kit_ty (isiB_ok e), k.now (x := .bl b) sm rfl q⟩
    · exact q.elim
  · exact q.elim
end
end Zd

set_option Elab.async false
set_option linter.all false
set_option maxRecDepth 100000
set_option maxHeartbeats 4000000
/-! Zd 5: targets, statements, loops, list comprehensions, defs. -/
namespace Zd
open PySem PySem.Spec PyProof.Rows L2 HotX
section
variable {prog : Program} {w : World} {A : Around} {E : Value → Shared → Prop} {s : Shared}
theorem next_tuple_end_hot {it t x1 : Addr} {i : Nat} {items} {Q : Option Value → Shared → Prop} (hot : HotAt A x1 s.heap) (hne : x1 ≠ it)
    (hit : IsTupIter s.heap it t i) (ht : IsTup s.heap t items) (hx : items[i]? = none)
    (hQ : ∀ h', Heap.ExtBut it s.heap h' → Q none { s with heap := h' }) : wpAny (model prog w) A (pyNext (.ref it)) Q E s := by
  obtain ⟨o, ho, hc, hd⟩ := id hit
  obtain ⟨ol, hol, _, nl, hdl⟩ := ht
  obtain ⟨hh, o1, vs1, h1, d1, c1⟩ := hot
  unfold pyNext
  refine wpAny_bind (wpAny_attempt (wpAny_callSpecial?_slot (name := Str.ofString "__next__") hit.typeIs slot_tupleiter_next
    (wpAny_call_entry slot_tupleiter_next hit.typeIs entry_tupleiter_next ?_ (args_tupleiter_next _))))
  show wpAny _ _ (field (.ref it) 0 >>= _) _ _ s
  refine wpAny_bind (wpAny_field ho hd (x := .ref t) rfl ?_)
  show wpAny _ _ (if (Value.ref t == Value.none) = true then _ else _) _ _ s
  rw [if_neg (show ¬ ((Value.ref t == Value.none) = true) from Bool.false_ne_true)]
  show wpAny _ _ (field (.ref it) 1 >>= _) _ _ s
  refine wpAny_bind (wpAny_field ho hd (x := .int i 0) rfl ?_)
  show wpAny _ _ (seqItems? (.ref t) >>= _) _ _ s
  refine wpAny_bind (wpAny_seqItems hol hdl ?_)
  simp only [Int.toNat_natCast, hx]
  refine wpAny_bind (wpAny_rule (wpAny_bind (wpAny_setField ho hd (by simp) ?_)))
  have h1' : (s.heap.update it (Obj.mapFields (·.setIfInBounds 0 Value.none))).get? x1 = some o1 := by
    rw [Heap.get?_update_other _ _ (Ne.symm hne)]; exact h1
  show wpAny _ _ (newExc (.type "StopIteration") [] >>= _) _ _ _
  refine wpAny_bind ?_
  simp only [newExc, newTuple]
  refine wpAny_bind (wpAny_newObj_type ?_ (by size_fits))
  refine wpAny_bind (m := firstArgMember _ _) (wpAny_of_eq (a := Value.none) (by first | rfl | (simp only [firstArgMember]; rfl)) ?_)
  refine wpAny_newObj_type ?_ (by size_fits)
  refine raiseNew_hot ⟨hh, o1, vs1, Heap.get?_push_of_some _ (Heap.get?_push_of_some _ h1'), d1, c1⟩ (Nat.ne_of_lt (Heap.lt_size (Heap.get?_push_of_some _ h1'))) (Heap.get?_push_size _ rfl) rfl (by first | (simp; done) | (simp; omega) | (simp only [Array.size_append]; simp; omega)) ?_
  refine wpAny_bind (wpAny_isInstance (T := "StopIteration") (b := true) ⟨_, Heap.get?_update_self _ (Heap.get?_push_size _ rfl) rfl, rfl⟩ isSubtype_stop ?_)
  refine wpAny_pure (hQ _ fun b o hb e => ?_)
  have e0 : (s.heap.update it (Obj.mapFields (·.setIfInBounds 0 Value.none))).get? b = some o := by
    rw [Heap.get?_update_other _ _ (Ne.symm hb)]; exact e
  rw [Heap.get?_update_other _ _ (Nat.ne_of_gt (Heap.lt_size (Heap.get?_push_of_some _ e0)))]
  exact Heap.get?_push_of_some _ (Heap.get?_push_of_some _ e0)
theorem unpackItems_tuple_hot {t x1 : Addr} {items : Array Value} {Q : List Value → Shared → Prop} (hot : HotAt A x1 s.heap) (ht : IsTup s.heap t items)
    (hQ : ∀ h', Heap.ExtBut s.heap.objs.size s.heap h' → Q items.toList { s with heap := h' }) : wpAny (model prog w) A (unpackItems (.ref t) items.size none) Q E s := by
  have hlt : t ≠ s.heap.objs.size := by obtain ⟨o, ho, _⟩ := ht; exact Nat.ne_of_lt (Heap.lt_size ho)
  obtain ⟨hh, o1, vs1, h1, d1, c1⟩ := hot
  have hx : x1 ≠ s.heap.objs.size := Nat.ne_of_lt (Heap.lt_size h1)
  unfold unpackItems
  refine wpAny_bind ?_
  · unfold notIterableAtAll
    refine wpAny_bind (wpAny_specialOf ht.typeIs slot_tuple_iter.lookup ?_)
    refine wpAny_pure ?_
    simp only [Bool.false_eq_true, if_false]
    refine wpAny_bind (wpAny_holding (iter_tuple ht ?_))
    refine wpAny_bind (wpAny_holding (draw_tuple hlt items.size 0 _ _ ⟨_, Heap.get?_push_size _ rfl, rfl, rfl⟩ (ht.push _) (by omega) fun h₁ hit₁ hs₁ => ?_))
    have hall : List.take items.size (List.drop 0 items.toList) = items.toList := by
      rw [List.drop_zero]; exact List.take_of_length_le (by simp)
    rw [hall]
    rw [if_neg (by simp)]
    have ht₁ : IsTup h₁ t items := (ht.push _).extBut hs₁.extBut hlt
    refine wpAny_bind (wpAny_holding (next_tuple_end_hot ⟨hh, o1, vs1, hs₁.extBut x1 o1 hx (Heap.get?_push_of_some _ h1), d1, c1⟩ hx hit₁ ht₁ (by simp) fun h₂ he₂ => ?_))
    simp only [Option.isSome_none, Bool.false_eq_true, if_false]
    refine wpAny_pure (hQ h₂ fun b o hb e => he₂ b o hb (hs₁.extBut b o hb (Heap.get?_push_of_some _ e)))
theorem assign_Tuple_tuple_hot {env : Env} {elts : List Expr} {k} {pos : Pos} {t x1 : Addr} {items : Array Value} {Q : Unit → Shared → Prop} (hot : HotAt A x1 s.heap) (ht : IsTup s.heap t items)
    (hn : (assignEach elts env).length = items.size) (hstar : (assignEach elts env).findIdx? (·.1) = none)
    (h : ∀ h', Heap.ExtBut s.heap.objs.size s.heap h' → wpAny (model prog w) A (assignInOrder ((assignEach elts env).map (·.2)) items.toList) Q E { s with heap := h' }) :
    wpAny (model prog w) A (assign (.Tuple elts k pos) env (.ref t)) Q E s := by
  rw [assign_Tuple]
  refine wpAny_bind (wpAny_standAt ?_)
  unfold unpack
  rw [hn, hstar]
  exact wpAny_bind (wpAny_holding (unpackItems_tuple_hot hot ht h))
end
theorem pg_tupH {X : Cx} {pos : Pos} {es : List Expr} {k : Nat} {t : TGs} {n : Nat} (hc : L2H.HotC X) (h : PGs X es t)
    (hn : (assignEach es X.env).length = n := by rfl) (hst : (assignEach es X.env).findIdx? (·.1) = none := by rfl) : PG X (.Tuple es k pos) (gTup X.K n t) := by
  refine ⟨fun pins s σ H v u Q I r hw => ?_⟩
  obtain ⟨a, xs, e1, hq, hl, hw⟩ := hw
  subst e1
  cases r
  obtain ⟨its, rv, ht, hz⟩ := I.tuple hq
  obtain ⟨x1, hot⟩ := L2H.HotC.at hc I
  refine assign_Tuple_tuple_hot hot ht (by simp [hn, ← hl, rv.length]) hst fun h' hx => ?_
  have I1 : Inv X pins σ H { s with heap := h' } := I.kept (t' := s.toks) fun b o e => hx b o (Nat.ne_of_lt (Heap.lt_size e)) e
  exact h.run pins _ σ H xs _ Q I1 (by simpa using rv) hw
end Zd
namespace Zd
open PySem PySem.Spec PyProof.Rows L2

structure ZSeq where
  its : List PV
  ok : Mp → Prop
abbrev ZWi := ZX → Tau → Mp → (ZSeq → Mp → Prop) → Prop
/-- how an iterator yields a sequence -/
def SeqOk (K : PySem.W.Frag) (H0 : Hp) (J : It) (sq : ZSeq) : Prop := ∀ {P : Hp} (i : Nat) (H : Hp) (M : Mp), Le H0 H → SRm K P H M → sq.ok M →
  (∀ x, sq.its[i]? = some x → J.go i H ∧ ∀ v H', J.yld i H v H' → Le H H' ∧ SRm K P H' M ∧ R K H' x v) ∧ (sq.its.length = i → J.stop i H)
def liftI (K : PySem.W.Frag) (mg : Gm) (W : L2.WX) (w : ZWi) : TI := fun σ H Rr => ∃ P E τ M Q', SRt K σ H τ ∧ SRm K P H M ∧ w E τ M Q' ∧ (∀ J H' sq M', Le H H' → SRm K P H' M' → SeqOk K H' J sq → Q' sq M' → Rr J H') ∧ Exl K P mg W σ H E
abbrev WI (X : Cx) (W : L2.WX) (tg iter : Expr) (w : ZWi) : Prop := PI X tg iter (liftI X.K X.mg W w)
theorem PI.imp {X : Cx} {tg iter : Expr} {t t' : TI} (h : PI X tg iter t) (i : ∀ σ H Q, t' σ H Q → t σ H Q) : PI X tg iter t' := ⟨fun pins s σ H Q I q => h.run pins s σ H Q I (i _ _ _ q)⟩
section
variable {K : PySem.W.Frag} {H : Hp}
theorem seq_tup {a : Addr} {xs : List PV} {vs : List V} (h : SqT K H a vs) (r : Rs K H xs vs) : SeqOk K H (Itt K a) ⟨xs, fun _ => True⟩ := fun i H1 M l sm _ => by
  have h1 := SqT.mono l h
  refine ⟨fun x e => ?_, fun e => ⟨vs, h1, by rw [r.length]; exact Nat.le_of_eq e⟩⟩
  obtain ⟨v, g, rv⟩ := r.get e
  refine ⟨⟨vs, v, h1, g⟩, fun u H' q => ?_⟩
  obtain ⟨rfl, q⟩ := q
  have e1 := q vs h1
  rw [g] at e1
  cases e1
  exact ⟨Le.refl, sm, R.mono l _ _ rv⟩
theorem seq_lst {a : Addr} {xs : List PV} : SeqOk K H (Itl K a) ⟨xs, fun M => lget M a = some xs⟩ := fun i H1 M l sm ok => by
  obtain ⟨vs, h1, r⟩ := sm.lget ok
  refine ⟨fun x e => ?_, fun e => ⟨vs, h1, by rw [r.length]; exact Nat.le_of_eq e⟩⟩
  obtain ⟨v, g, rv⟩ := r.get e
  refine ⟨⟨vs, v, h1, g⟩, fun u H' q => ?_⟩
  obtain ⟨rfl, q⟩ := q
  have e1 := q vs h1
  rw [g] at e1
  cases e1
  exact ⟨Le.refl, sm, rv⟩
theorem SqF.mono {a : Addr} {vs : List V} {H1 : Hp} (l : Le H H1) (h : SqF K H a vs) : SqF K H1 a vs := by
  rcases h with ⟨o, h⟩ | h
  · exact .inl ⟨o, l.frz _ _ _ h⟩
  · exact .inr h
theorem seq_fl {a : Addr} {xs : List PV} {vs : List V} (h : SqF K H a vs) (r : Rs K H xs vs) : SeqOk K H (Itl K a) ⟨xs, fun _ => True⟩ := fun i H1 M l sm _ => by
  have h1 := (SqF.mono l h).sq
  have r := Rs.mono l _ _ r
  refine ⟨fun x e => ?_, fun e => ⟨vs, h1, by rw [r.length]; exact Nat.le_of_eq e⟩⟩
  obtain ⟨v, g, rv⟩ := r.get e
  refine ⟨⟨vs, v, h1, g⟩, fun u H' q => ?_⟩
  obtain ⟨rfl, q⟩ := q
  have e1 := q vs h1
  rw [g] at e1
  cases e1
  exact ⟨Le.refl, sm, rv⟩
def rngL (lo : Int) (n : Nat) : List PV := (List.range n).map fun (k : Nat) => PV.int (lo + k)
theorem rngL_get {lo : Int} {n i : Nat} {x : PV} (h : (rngL lo n)[i]? = some x) : i < n ∧ x = .int (lo + i) := by
  unfold rngL at h
  rw [List.getElem?_map] at h
  cases e : (List.range n)[i]? with
  | none => rw [e] at h; cases h
  | some k =>
    rw [e] at h
    have h1 : i < n := by
      have := (List.getElem?_eq_some_iff.mp e).1
      simpa using this
    rw [List.getElem?_range h1] at e
    cases e
    cases h
    exact ⟨h1, rfl⟩
theorem rngL_len {lo : Int} {n : Nat} : (rngL lo n).length = n := by unfold rngL; rw [List.length_map, List.length_range]
theorem seq_rng {lo : Int} {n : Nat} : SeqOk K H (Itr lo n) ⟨rngL lo n, fun _ => True⟩ := fun i H1 M l sm ok => by
  refine ⟨fun x e => ?_, fun e => ?_⟩
  · obtain ⟨h1, rfl⟩ := rngL_get e
    refine ⟨h1, fun v H' q => ?_⟩
    obtain ⟨rfl, rfl⟩ := q
    exact ⟨Le.refl, sm, rfl⟩
  · have e : (rngL lo n).length = i := e
    rw [rngL_len] at e
    exact Nat.le_of_eq e
theorem seq_str {z : Str} : SeqOk K H (Its z) ⟨z.cps.toList.map fun c => .str ⟨#[c]⟩, fun _ => True⟩ := fun i H1 M l sm ok => by
  refine ⟨fun x e => ?_, fun e => ?_⟩
  · have e : (z.cps.toList.map fun c => PV.str ⟨#[c]⟩)[i]? = some x := e
    rw [List.getElem?_map] at e
    cases q : z.cps.toList[i]? with
    | none => rw [q] at e; cases e
    | some c =>
      rw [q] at e
      cases e
      have h1 : i < z.cps.size := by simpa using (List.getElem?_eq_some_iff.mp q).1
      refine ⟨h1, fun v H' y => ?_⟩
      obtain ⟨rfl, c', e1, rfl⟩ := y
      have : c' = c := by
        rw [Array.getElem?_toList] at q
        rw [q] at e1
        cases e1
        rfl
      subst this
      exact ⟨Le.refl, sm, rfl⟩
  · have e : (z.cps.toList.map fun c => PV.str ⟨#[c]⟩).length = i := e
    rw [List.length_map] at e
    show z.cps.size ≤ i
    have e : z.cps.size = i := by simpa using e
    omega
end
section
variable {X : Cx} {W : L2.WX} {e tg : Expr} {we : ZWe} {pos p : Pos}
/-- the three walks of a value at once: by the value that comes -/
def iAny (K : PySem.W.Frag) (tl : TE) : TI := fun σ H R => tl σ H fun x H1 =>
  (∃ a xs, x = .ref a ∧ SqL K H1 a xs ∧ R (Itl K a) H1) ∨ (∃ a xs, x = .ref a ∧ SqT K H1 a xs ∧ R (Itt K a) H1) ∨ ∃ z, x = .str z ∧ R (Its z) H1
theorem pi_any {tl : TE} (hl : PE X e tl) : PI X tg e (iAny X.K tl) := ⟨fun pins s σ H R I hw => thn (hl.run pins s σ H _ I hw) fun u s1 ⟨v, H1, I1, r1, q⟩ => by
  rcases q with ⟨a, xs, rfl, sq, q⟩ | ⟨a, xs, rfl, sq, q⟩ | ⟨z, rfl, q⟩
  · obtain rfl : u = Value.ref a := r1
    have ⟨its, _, pl, _⟩ := I1.list sq
    exact wpAny_pyIter_list pl.isList (pi_one (tk := s1.toks) I1 _ (turn_list a _) ⟨_, Heap.get?_push_size _ rfl, rfl, rfl⟩ q)
  · obtain rfl : u = Value.ref a := r1
    have ⟨its, _, pl, _⟩ := I1.tuple sq
    exact wpAny_pyIter_tuple (show s1.heap.IsTuple a its.toArray from pl) (pi_one (tk := s1.toks) I1 _ (turn_tuple a _) ⟨_, Heap.get?_push_size _ rfl, rfl, rfl⟩ q)
  · obtain ⟨t, rfl⟩ := r1
    cases hz : z.cps.all (· < 128) with
    | false => exact wpAny_pyIter_wide hz (pi_one (tk := s1.toks) I1 _ (turn_str _ z t "str_iterator" (.inr rfl)) ⟨_, Heap.get?_push_size _ rfl, rfl, rfl⟩ q)
    | true => exact wpAny_pyIter_ascii hz (pi_one (tk := s1.toks) I1 _ (turn_str _ z t "str_ascii_iterator" (.inl rfl)) ⟨_, Heap.get?_push_size _ rfl, rfl, rfl⟩ q)⟩
def seqP (x : PV) (M : Mp) (Q : ZSeq → Mp → Prop) : Prop := match x with
  | .tup xs => Q ⟨xs, fun _ => True⟩ M
  | .ref p => match lget M p with
    | some xs => Q ⟨xs, fun M => lget M p = some xs⟩ M
    | none => False
  | .str z => Q ⟨z.cps.toList.map fun c => .str ⟨#[c]⟩, fun _ => True⟩ M
  | .fl xs => Q ⟨xs, fun _ => True⟩ M
  | _ => False
def wSeq (wa : ZWe) : ZWi := fun E τ M Q => wa E τ M fun x M1 => seqP x M1 Q
theorem wi_seq (h : WE X W e we) : WI X W tg e (wSeq we) := PI.imp (pi_any h) fun σ H Q h => by
  obtain ⟨P, E, τ, M, Q', st, sm, hw, hc, hE⟩ := h
  refine ⟨P, E, τ, M, _, st, sm, hw, fun v H1 x M1 l1 sm1 r1 h1 => ?_, hE⟩
  cases x with
  | tup xs =>
    obtain ⟨a, vs, rfl, sa, ra⟩ := r1
    exact .inr (.inl ⟨a, vs, rfl, sa, hc _ _ _ _ l1 sm1 (seq_tup sa ra) h1⟩)
  | ref p =>
    obtain rfl := R.of_ref r1
    dsimp only [seqP] at h1
    split at h1
    · rename_i xs eq
      obtain ⟨vs, sa, ra⟩ := sm1.lget eq
      exact .inl ⟨p, vs, rfl, sa, hc _ _ _ _ l1 sm1 seq_lst h1⟩
    · exact h1.elim
  | str z =>
    obtain rfl := R.of_str r1
    exact .inr (.inr ⟨z, rfl, hc _ _ _ _ l1 sm1 seq_str h1⟩)
  | fl xs =>
    obtain ⟨a, vs, rfl, sa, ra⟩ := r1
    exact .inl ⟨a, vs, rfl, sa.sq, hc _ _ _ _ l1 sm1 (seq_fl sa ra) h1⟩
  | _ => exact h1.elim
def smallI (i : Int) : Prop := -(2 ^ 62) ≤ i ∧ i < 2 ^ 62
def rng1P (xs : List PV) (M : Mp) (Q : ZSeq → Mp → Prop) : Prop := match xs with
  | [.int j] => smallI j ∧ Q ⟨rngL 0 j.toNat, fun _ => True⟩ M
  | _ => False
def rng2P (xs : List PV) (M : Mp) (Q : ZSeq → Mp → Prop) : Prop := match xs with
  | [.int i, .int j] => (smallI i ∧ smallI j) ∧ Q ⟨rngL i (j - i).toNat, fun _ => True⟩ M
  | _ => False
def wRng1 (w : ZWa) : ZWi := fun E τ M Q => w E τ M fun xs M1 => rng1P xs M1 Q
def wRng2 (w : ZWa) : ZWi := fun E τ M Q => w E τ M fun xs M1 => rng2P xs M1 Q
theorem lift_rng1 {X : Cx} {W : L2.WX} {w : ZWa} {σ : L2.St} {H : Hp} {Q : It → Hp → Prop} (h : liftI X.K X.mg W (wRng1 w) σ H Q) : iRng1 (liftA X.K X.mg W w) σ H Q := by
    obtain ⟨P, E, τ, M, Q', st, sm, hw, hc, hE⟩ := h
    refine ⟨P, E, τ, M, _, st, sm, hw, fun vs H1 xs M1 l1 sm1 r1 h1 => ?_, hE⟩
    dsimp only [rng1P] at h1
    split at h1
    · obtain ⟨v, rfl, r⟩ := Rs.of1 r1
      obtain rfl := R.of_int r
      exact ⟨_, rfl, h1.1.1, h1.1.2, hc _ _ _ _ l1 sm1 seq_rng h1.2⟩
    · exact h1.elim
theorem wi_rng1 {a : Expr} {w : ZWa} (hg : Gl X "range") (hm : X.mg "range" = none) (h : WA X W [a] w) (hs : starEach [a] X.env = [(false, eval a X.env)]) : WI X W tg (.Call (.Name "range" p) [a] [] pos) (wRng1 w) :=
  PI.imp (pi_range1 hg hm h hs) fun σ H Q h => lift_rng1 h
abbrev WIH (X : Cx) (W : L2.WX) (tg iter : Expr) (w : ZWi) : Prop := L2H.PIH X tg iter (liftI X.K X.mg W w)
theorem wi_rng1H {a : Expr} {w : ZWa} (hg : Gl X "range") (hm : X.mg "range" = none) (h : WA X W [a] w) (hs : starEach [a] X.env = [(false, eval a X.env)]) : WIH X W tg (.Call (.Name "range" p) [a] [] pos) (wRng1 w) :=
  ⟨fun pins s σ H Q I q => (L2H.pi_range1H hg hm h hs).run pins s σ H Q I (lift_rng1 q)⟩
theorem wi_rng2 {a b : Expr} {w : ZWa} (hg : Gl X "range") (hm : X.mg "range" = none) (h : WA X W [a, b] w) (hs : starEach [a, b] X.env = [(false, eval a X.env), (false, eval b X.env)]) (hs2 : starEach [b] X.env = [(false, eval b X.env)]) :
    WI X W tg (.Call (.Name "range" p) [a, b] [] pos) (wRng2 w) :=
  PI.imp (pi_range2 hg hm h hs hs2) fun σ H Q h => by
    obtain ⟨P, E, τ, M, Q', st, sm, hw, hc, hE⟩ := h
    refine ⟨P, E, τ, M, _, st, sm, hw, fun vs H1 xs M1 l1 sm1 r1 h1 => ?_, hE⟩
    dsimp only [rng2P] at h1
    split at h1
    · obtain ⟨v, u, rfl, r, r2⟩ := Rs.of2 r1
      obtain rfl := R.of_int r
      obtain rfl := R.of_int r2
      exact ⟨_, _, rfl, ⟨h1.1.1.1, h1.1.1.2, h1.1.2.1, h1.1.2.2⟩, hc _ _ _ _ l1 sm1 seq_rng h1.2⟩
    · exact h1.elim
end
/-! ### targets -/
abbrev ZWg := PV → Tau → Mp → (Tau → Mp → Prop) → Prop
def ContT (K : PySem.W.Frag) (P : Hp) (H : Hp) (Q' : Tau → Mp → Prop) (Q : L2.St → Hp → Prop) : Prop := ∀ σ' H' τ' M', Le H H' → SRt K σ' H' τ' → SRm K P H' M' → Q' τ' M' → Q σ' H'
theorem ContT.mono {K : PySem.W.Frag} {P H H' : Hp} {Q' : Tau → Mp → Prop} {Q : L2.St → Hp → Prop} (l : Le H H') (c : ContT K P H Q' Q) : ContT K P H' Q' Q := fun a b c' d l2 => c a b c' d (l.trans l2)
def liftG (K : PySem.W.Frag) (w : ZWg) : TG := fun v σ H Q => ∃ P x τ M Q', R K H x v ∧ SRt K σ H τ ∧ SRm K P H M ∧ w x τ M Q' ∧ ContT K P H Q' Q
abbrev ZWgs := List PV → Tau → Mp → (Tau → Mp → Prop) → Prop
def liftGs (K : PySem.W.Frag) (w : ZWgs) : TGs := fun vs σ H Q => ∃ P xs τ M Q', Rs K H xs vs ∧ SRt K σ H τ ∧ SRm K P H M ∧ w xs τ M Q' ∧ ContT K P H Q' Q
abbrev WG (X : Cx) (tg : Expr) (w : ZWg) : Prop := PG X tg (liftG X.K w)
abbrev WGs (X : Cx) (tg : List Expr) (w : ZWgs) : Prop := PGs X tg (liftGs X.K w)
theorem PG.imp {X : Cx} {tg : Expr} {t t' : TG} (h : PG X tg t) (i : ∀ v σ H Q, t' v σ H Q → t v σ H Q) : PG X tg t' := ⟨fun pins s σ H v u Q I r q => h.run pins s σ H v u Q I r (i _ _ _ _ q)⟩
theorem PGs.imp {X : Cx} {tg : List Expr} {t t' : TGs} (h : PGs X tg t) (i : ∀ v σ H Q, t' v σ H Q → t v σ H Q) : PGs X tg t' := ⟨fun pins s σ H v u Q I r q => h.run pins s σ H v u Q I r (i _ _ _ _ q)⟩
abbrev E0x : ZX := fun _ _ _ => False
abbrev W0 : L2.WX := fun _ _ _ _ => False
theorem exl0 {K : PySem.W.Frag} {P : Hp} {mg : Gm} {W : L2.WX} {σ : L2.St} {H : Hp} : Exl K P mg W σ H E0x := fun _ _ _ _ _ _ _ _ _ h => h.elim
section
variable {X : Cx} {W : L2.WX} {e tg o i : Expr} {es : List Expr} {we wo wi : ZWe} {wg : ZWg} {ws : ZWgs} {pos p : Pos}
def wgName (i : Nat) : ZWg := fun x τ M Q => Q (τ.set i (some x)) M
theorem wg_name {i : Nat} {x : Str} (h : PG X (.Name x pos) (gName i)) : WG X (.Name x pos) (wgName i) := PG.imp h fun v σ H Q h => by
  obtain ⟨P, x, τ, M, Q', r, st, sm, hw, hc⟩ := h
  exact hc _ _ _ _ Le.refl (st.set r) sm hw
def wgNil : ZWgs := fun xs τ M Q => xs = [] ∧ Q τ M
def wgCons (wg : ZWg) (ws : ZWgs) : ZWgs := fun xs τ M Q => match xs with
  | x :: r => wg x τ M fun τ' M' => ws r τ' M' Q
  | [] => False
theorem wgs_nil : WGs X [] wgNil := PGs.imp pgs_nil fun v σ H Q h => by
  obtain ⟨P, xs, τ, M, Q', r, st, sm, hw, hc⟩ := h
  obtain ⟨rfl, hw⟩ := hw
  exact ⟨r, hc _ _ _ _ Le.refl st sm hw⟩
theorem wgs_cons (h1 : WG X e wg) (h2 : WGs X es ws) (hs : (assignEach (e :: es) X.env).map (·.2) = assign e X.env :: (assignEach es X.env).map (·.2)) : WGs X (e :: es) (wgCons wg ws) :=
  PGs.imp (pgs_cons h1 h2 hs) fun v σ H Q h => by
    obtain ⟨P, xs, τ, M, Q', r, st, sm, hw, hc⟩ := h
    cases xs with
    | nil => exact hw.elim
    | cons x xs =>
      obtain ⟨u, us, rfl, r1, r2⟩ := r
      refine ⟨u, us, rfl, P, x, τ, M, _, r1, st, sm, hw, fun σ' H' τ' M' l st' sm' h' => ?_⟩
      exact ⟨P, xs, τ', M', Q', Rs.mono l _ _ r2, st', sm', h', hc.mono l⟩
def wgTup (ws : ZWgs) : ZWg := fun x τ M Q => match x with
  | .tup xs => ws xs τ M Q
  | _ => False
theorem lift_tup {n : Nat} {K : PySem.W.Frag} {ws : ZWgs} {v : V} {σ : L2.St} {H : Hp} {Q : L2.St → Hp → Prop} (hw : ∀ xs τ M Q, ws xs τ M Q → xs.length = n) (h : liftG K (wgTup ws) v σ H Q) : gTup K n (liftGs K ws) v σ H Q := by
    obtain ⟨P, x, τ, M, Q', r, st, sm, hq, hk⟩ := h
    cases x with
    | tup xs =>
      obtain ⟨a, vs, rfl, sa, ra⟩ := r
      exact ⟨a, vs, rfl, sa, by rw [ra.length]; exact hw _ _ _ _ hq, P, xs, τ, M, Q', ra, st, sm, hq, hk⟩
    | _ => exact hq.elim
theorem wg_tup {k n : Nat} (hc : X.calm = true) (h : WGs X es ws) (hw : ∀ xs τ M Q, ws xs τ M Q → xs.length = n) (hn : (assignEach es X.env).length = n) (hst : (assignEach es X.env).findIdx? (·.1) = none) : WG X (.Tuple es k pos) (wgTup ws) :=
  PG.imp (pg_tup hc h hn hst) fun v σ H Q h => lift_tup hw h
theorem wg_tupH {k n : Nat} (hc : L2H.HotC X) (h : WGs X es ws) (hw : ∀ xs τ M Q, ws xs τ M Q → xs.length = n) (hn : (assignEach es X.env).length = n) (hst : (assignEach es X.env).findIdx? (·.1) = none) : WG X (.Tuple es k pos) (wgTup ws) :=
  PG.imp (pg_tupH hc h hn hst) fun v σ H Q h => lift_tup hw h
/-- o[i] = x, a list -/
def setP (o i x : PV) (M : Mp) (Q : Mp → Prop) : Prop := match o, i with
  | .ref p, y => match M p with
    | some (.lst xs) => match y with
      | .int k => match ixN xs.length k with
        | some j => Q (mu M p (.lst (xs.set j x)))
        | none => False
      | _ => False
    | some (.dic kvs) => ∃ q, keyOf y = some q ∧ kvs.length < sizeLine ∧ Q (mu M p (.dic (putZ kvs q x)))
    | _ => False
  | _, _ => False
def wgIx (wo wi : ZWe) : ZWg := fun x τ M Q => wo E0x τ M fun o M1 => wi E0x τ M1 fun i M2 => setP o i x M2 fun M3 => Q τ M3
theorem setP_of {K : PySem.W.Frag} {P H : Hp} {M : Mp} {o i x : PV} {ov iv v : V} {Q' : Mp → Prop} {Q : Hp → Prop} (sm : SRm K P H M) (ro : R K H o ov) (ri : R K H i iv) (rx : R K H x v) (h : setP o i x M Q') (c : ∀ H' M', Le H H' → SRm K P H' M' → Q' M' → Q H') : rSetL ov iv v H Q ∨ rSetD ov iv v H Q := by
  unfold setP at h
  split at h
  · rename_i q
    obtain rfl := R.of_ref ro
    split at h
    · rename_i xs e
      split at h
      · rename_i k
        obtain rfl := R.of_int ri
        split at h
        · rename_i j e2
          obtain ⟨vs, hp, rv⟩ := sm.lst e
          refine .inl ⟨q, vs, k, j, rfl, rfl, hp, by rw [rv.length]; exact e2, ?_⟩
          exact c _ _ (Le.lst hp) (sm.put_lst e hp (rv.set rx j)) h
        · exact h.elim
      · exact h.elim
    · rename_i kvs e
      obtain ⟨key, hk, hl, h⟩ := h
      obtain ⟨ws, hp, rk⟩ := sm.dic e
      obtain rfl := keyOf_R ri hk
      have l1 : Le H (upd H q (.dK (putK ws key v))) := Le.dK hp
      refine .inr ⟨q, _, rfl, DPut.k hp (by rw [kr_len rk]; exact hl), ?_⟩
      exact c _ (mu M q (.dic (putZ kvs key x))) l1 (sm.put (m := .dic (putZ kvs key x)) (.inr ⟨_, e, rfl⟩) l1 rfl ⟨_, upd_same, kr_mono l1 (kr_put rx rk)⟩) h
    · exact h.elim
  · exact h.elim
theorem pset_or {X : Cx} {t t' : TSet} (h : PSet X t) (h' : PSet X t') : PSet X (fun o i v H Q => t o i v H Q ∨ t' o i v H Q) := fun pins s σ H o i v ov iv u Q I ro ri rv q =>
  q.elim (fun q => h pins s σ H o i v ov iv u Q I ro ri rv q) (fun q => h' pins s σ H o i v ov iv u Q I ro ri rv q)
theorem wg_ix (hu : X.A.units + 1 < cLine) (ho : WE X W o wo) (hi : WE X W i wi) (ha : ∀ v, assign (.Subscript o i pos) X.env v = (do
      let ov ← holding [v] (eval o X.env)
      let iv ← holding [v, ov] (eval i X.env)
      standAt pos
      holding [v, ov, iv] (setItem ov iv v)
      release [v, ov, iv] [])) : WG X (.Subscript o i pos) (wgIx wo wi) := PG.imp (pg_sub ho hi (pset_or set_list (set_dict hu)) ha) fun v σ H Q h => by
  obtain ⟨P, x, τ, M, Q', r, st, sm, hq, hk⟩ := h
  refine ⟨P, E0x, τ, M, _, st, sm, hq, fun ov H1 o M1 l1 sm1 r1 h1 => ?_, exl0⟩
  refine ⟨P, E0x, τ, M1, _, st.mono l1, sm1, h1, fun iv H2 i M2 l2 sm2 r2 h2 => ?_, exl0⟩
  exact setP_of sm2 (R.mono l2 _ _ r1) r2 (R.mono (l1.trans l2) _ _ r) h2 fun H3 M3 l3 sm3 h3 => hk _ _ _ _ ((l1.trans l2).trans l3) (st.mono ((l1.trans l2).trans l3)) sm3 h3
end
/-! ### statements -/
structure ZJ where
  rt : ZQ
  bk : Tau → Mp → Prop
  ct : Tau → Mp → Prop
  ex : Tau → ZX
abbrev ZWs := ZJ → (Tau → Mp → Prop) → Tau → Mp → Prop
def ExS (K : PySem.W.Frag) (P : Hp) (mg : Gm) (W : L2.WX) (H : Hp) (ex : Tau → ZX) : Prop := ∀ σ' H' τ', Le H H' → SRt K σ' H' τ' → Exl K P mg W σ' H' (ex τ')
theorem ExS.mono {K : PySem.W.Frag} {P H H' : Hp} {mg : Gm} {W : L2.WX} {ex : Tau → ZX} (l : Le H H') (c : ExS K P mg W H ex) : ExS K P mg W H' ex := fun a b d l2 => c a b d (l.trans l2)
structure Jok (K : PySem.W.Frag) (P : Hp) (mg : Gm) (W : L2.WX) (H : Hp) (J : ZJ) (D : Ends) : Prop where
  rt : Cont K P H J.rt D.rt
  bk : ContT K P H J.bk D.bk
  ct : ContT K P H J.ct D.ct
  ex : ExS K P mg W H J.ex
theorem Jok.mono {K : PySem.W.Frag} {P H H' : Hp} {mg : Gm} {W : L2.WX} {J : ZJ} {D : Ends} (l : Le H H') (c : Jok K P mg W H J D) : Jok K P mg W H' J D := ⟨c.rt.mono l, c.bk.mono l, c.ct.mono l, c.ex.mono l⟩
def liftS (K : PySem.W.Frag) (mg : Gm) (W : L2.WX) (w : ZWs) : TS := fun D σ H => ∃ P J nx τ M, SRt K σ H τ ∧ SRm K P H M ∧ w J nx τ M ∧ ContT K P H nx D.nx ∧ Jok K P mg W H J D
abbrev WS (X : Cx) (W : L2.WX) (st : Stmt) (w : ZWs) : Prop := PS X st (liftS X.K X.mg W w)
abbrev WSs (X : Cx) (W : L2.WX) (st : List Stmt) (w : ZWs) : Prop := PSs X st (liftS X.K X.mg W w)
theorem PS.imp {X : Cx} {st : Stmt} {t t' : TS} (h : PS X st t) (i : ∀ D σ H, t' D σ H → t D σ H) : PS X st t' := ⟨fun pins s σ H D I q => h.run pins s σ H D I (i _ _ _ q)⟩
theorem PSs.imp {X : Cx} {st : List Stmt} {t t' : TS} (h : PSs X st t) (i : ∀ D σ H, t' D σ H → t D σ H) : PSs X st t' := ⟨fun pins s σ H D I q => h.run pins s σ H D I (i _ _ _ q)⟩
section
variable {X : Cx} {W : L2.WX} {e tg : Expr} {st : Stmt} {rest body orelse : List Stmt} {we : ZWe} {wt : ZWt} {wi : ZWi} {wg : ZWg} {w1 w2 : ZWs} {pos p : Pos}
def wSkip : ZWs := fun _ nx τ M => nx τ M
def wThen (w1 w2 : ZWs) : ZWs := fun J nx τ M => w1 J (fun τ' M' => w2 J nx τ' M') τ M
theorem wss_nil : WSs X W [] wSkip := PSs.imp pss_nil fun D σ H h => by
  obtain ⟨P, J, nx, τ, M, st, sm, hw, hn, hj⟩ := h
  exact hn _ _ _ _ Le.refl st sm hw
theorem wss_cons (h1 : WS X W st w1) (h2 : WSs X W rest w2) : WSs X W (st :: rest) (wThen w1 w2) := PSs.imp (pss_cons h1 h2) fun D σ H h => by
  obtain ⟨P, J, nx, τ, M, st, sm, hw, hn, hj⟩ := h
  refine ⟨P, J, _, τ, M, st, sm, hw, fun σ' H' τ' M' l st' sm' h' => ?_, ⟨hj.rt, hj.bk, hj.ct, hj.ex⟩⟩
  exact ⟨P, J, nx, τ', M', st', sm', h', hn.mono l, hj.mono l⟩
theorem ws_pass : WS X W (.Pass pos) wSkip := PS.imp ps_pass fun D σ H h => by
  obtain ⟨P, J, nx, τ, M, st, sm, hw, hn, hj⟩ := h
  exact hn _ _ _ _ Le.refl st sm hw
theorem ws_break : WS X W (.Break pos) (fun J _ τ M => J.bk τ M) := PS.imp ps_break fun D σ H h => by
  obtain ⟨P, J, nx, τ, M, st, sm, hw, hn, hj⟩ := h
  exact hj.bk _ _ _ _ Le.refl st sm hw
theorem ws_cont : WS X W (.Continue pos) (fun J _ τ M => J.ct τ M) := PS.imp ps_continue fun D σ H h => by
  obtain ⟨P, J, nx, τ, M, st, sm, hw, hn, hj⟩ := h
  exact hj.ct _ _ _ _ Le.refl st sm hw
def wDrop (we : ZWe) : ZWs := fun J nx τ M => we (J.ex τ) τ M fun _ M1 => nx τ M1
theorem ws_expr (he : WE X W e we) (hs : swapsWith e none pos.line X.env = pure false) : WS X W (.Expr e pos) (wDrop we) := PS.imp (ps_expr he hs) fun D σ H h => by
  obtain ⟨P, J, nx, τ, M, st, sm, hw, hn, hj⟩ := h
  exact ⟨P, J.ex τ, τ, M, _, st, sm, hw, fun v H1 x M1 l1 sm1 r1 h1 => hn _ _ _ _ l1 (st.mono l1) sm1 h1, hj.ex _ _ _ Le.refl st⟩
def wRet (we : ZWe) : ZWs := fun J nx τ M => we (J.ex τ) τ M J.rt
theorem ws_ret (he : WE X W e we) : WS X W (.Return (some e) pos) (wRet we) := PS.imp (ps_ret he) fun D σ H h => by
  obtain ⟨P, J, nx, τ, M, st, sm, hw, hn, hj⟩ := h
  exact ⟨P, J.ex τ, τ, M, _, st, sm, hw, hj.rt, hj.ex _ _ _ Le.refl st⟩
theorem ws_retN : WS X W (.Return none pos) (fun J _ _ M => J.rt .non M) := PS.imp ps_retN fun D σ H h => by
  obtain ⟨P, J, nx, τ, M, st, sm, hw, hn, hj⟩ := h
  exact hj.rt.now (x := .non) sm rfl hw
def wIfS (wt : ZWt) (w1 w2 : ZWs) : ZWs := fun J nx τ M => wt (J.ex τ) τ M fun b M1 => if b = true then w1 J nx τ M1 else w2 J nx τ M1
theorem ws_if {c : Expr} (hc : WT X W c wt) (ha : WSs X W body w1) (hb : WSs X W orelse w2) : WS X W (.If c body orelse pos) (wIfS wt w1 w2) := PS.imp (ps_if hc ha hb) fun D σ H h => by
  obtain ⟨P, J, nx, τ, M, st, sm, hw, hn, hj⟩ := h
  refine ⟨P, J.ex τ, τ, M, _, st, sm, hw, fun b H1 M1 l1 sm1 h1 => ?_, hj.ex _ _ _ Le.refl st⟩
  cases b with
  | true => rw [if_pos rfl] at h1 ⊢; exact ⟨P, J, nx, τ, M1, st.mono l1, sm1, h1, hn.mono l1, hj.mono l1⟩
  | false => rw [if_neg (by decide)] at h1 ⊢; exact ⟨P, J, nx, τ, M1, st.mono l1, sm1, h1, hn.mono l1, hj.mono l1⟩
def wAsg (we : ZWe) (wg : ZWg) : ZWs := fun J nx τ M => we (J.ex τ) τ M fun x M1 => wg x τ M1 nx
theorem lift_asg {te : TE} {g : TG} {D : Ends} {σ : L2.St} {H : Hp} (ht : ∀ σ H Q, lift X.K X.mg W we σ H Q → te σ H Q) (hg : ∀ v σ H Q, liftG X.K wg v σ H Q → g v σ H Q) (h : liftS X.K X.mg W (wAsg we wg) D σ H) : tAsg te g D σ H := by
  obtain ⟨P, J, nx, τ, M, st, sm, hw, hn, hj⟩ := h
  refine ht _ _ _ ⟨P, J.ex τ, τ, M, _, st, sm, hw, fun v H1 x M1 l1 sm1 r1 h1 => ?_, hj.ex _ _ _ Le.refl st⟩
  exact hg _ _ _ _ ⟨P, x, τ, M1, nx, r1, st.mono l1, sm1, h1, hn.mono l1⟩
theorem ws_asg (he : WE X W e we) (hg : WG X tg wg) (hs : swapsWithSole [tg] e pos.line X.env = pure false) (hw : swappedStores [tg] e X.env = pure none) (h1 : (assignEach [tg] X.env).map (·.2) = [assign tg X.env]) :
    WS X W (.Assign [tg] e pos) (wAsg we wg) := PS.imp (ps_asg he hg hs hw h1) fun D σ H h => lift_asg (fun _ _ _ h => h) (fun _ _ _ _ h => h) h
/-- a, b = x, y: both stored behind both -/
def wPar (i j : Nat) (w : ZWa) : ZWs := fun J nx τ M => w (J.ex τ) τ M fun xs M1 => match xs with
  | [x, y] => nx ((τ.set i (some x)).set j (some y)) M1
  | _ => False
theorem lift_par {i j : Nat} {w : ZWa} {D : Ends} {σ : L2.St} {H : Hp} (h : liftS X.K X.mg W (wPar i j w) D σ H) : tPar i j (liftA X.K X.mg W w) D σ H := by
  obtain ⟨P, J, nx, τ, M, st, sm, hw, hn, hj⟩ := h
  refine ⟨P, J.ex τ, τ, M, _, st, sm, hw, fun vs H1 xs M1 l1 sm1 r1 h1 => ?_, hj.ex _ _ _ Le.refl st⟩
  dsimp only at h1
  split at h1
  · obtain ⟨v, u, rfl, r, r2⟩ := Rs.of2 r1
    exact ⟨v, u, rfl, hn _ _ _ _ l1 (((st.mono l1).set r).set r2) sm1 h1⟩
  · exact h1.elim
/-- name op= e -/
def wAug (i : Nat) (f : PV → PV → Mp → ZQ → Prop) (we : ZWe) : ZWs := fun J nx τ M => match τ[i]? with
  | some (some x) => we (J.ex τ) τ M fun y M1 => f x y M1 fun z M2 => nx (τ.set i (some z)) M2
  | _ => False
theorem lift_aug {i : Nat} {r : R2} {f : PV → PV → Mp → ZQ → Prop} (hz : OpZ X.K r f) {D : Ends} {σ : L2.St} {H : Hp} (h : liftS X.K X.mg W (wAug i f we) D σ H) : tAug i (lift X.K X.mg W we) r D σ H := by
  obtain ⟨P, J, nx, τ, M, st, sm, hw, hn, hj⟩ := h
  unfold wAug at hw
  split at hw
  · rename_i x e
    obtain ⟨v, h1, r1⟩ := st.2 i x e
    refine ⟨v, h1, P, J.ex τ, τ, M, _, st, sm, hw, fun u H1 y M1 l1 sm1 r2 h2 => ?_, hj.ex _ _ _ Le.refl st⟩
    refine hz x y v u H1 M1 _ _ sm1 (R.mono l1 _ _ r1) r2 h2 fun z H2 w M2 l2 sm2 r3 h3 => ?_
    exact hn _ _ _ _ (l1.trans l2) ((st.mono (l1.trans l2)).set r3) sm2 h3
  · exact hw.elim
/-! ### loops -/
def forP (ok : Mp → Prop) (step : PV → Tau → Mp → (Tau → Mp → Prop) → Prop) (nx : Tau → Mp → Prop) : List PV → Tau → Mp → Prop
  | [], τ, M => ok M ∧ nx τ M
  | x :: xs, τ, M => ok M ∧ step x τ M (dropT (forP ok step nx xs))
def wFor (wi : ZWi) (wg : ZWg) (wb : ZWs) : ZWs := fun J nx τ M => wi (J.ex τ) τ M fun sq M1 =>
  forP sq.ok (fun x τ M k => wg x τ M fun τ' M' => wb { J with bk := nx, ct := k } k τ' M') nx sq.its τ M1
theorem lift_for {X : Cx} {W : L2.WX} {wi : ZWi} {wg : ZWg} {w1 : ZWs} {D : Ends} {σ : L2.St} {H : Hp} (h : liftS X.K X.mg W (wFor wi wg w1) D σ H) : tFor (liftI X.K X.mg W wi) (liftG X.K wg) (liftS X.K X.mg W w1) D σ H := by
  obtain ⟨P, J, nx, τ, M, st, sm, hw, hn, hj⟩ := h
  refine ⟨P, J.ex τ, τ, M, _, st, sm, hw, fun Jt H1 sq M1 l1 sm1 so h1 => ?_, hj.ex _ _ _ Le.refl st⟩
  let step : PV → Tau → Mp → (Tau → Mp → Prop) → Prop := fun x τ M k => wg x τ M fun τ' M' => w1 { J with bk := nx, ct := k } k τ' M'
  refine ⟨fun i m σ' H' => ∃ τ' M', m + i = sq.its.length ∧ Le H1 H' ∧ SRt X.K σ' H' τ' ∧ SRm X.K P H' M' ∧ forP sq.ok step nx (sq.its.drop i) τ' M',
    ⟨sq.its.length, τ, M1, rfl, Le.refl, st.mono l1, sm1, h1⟩, fun i m σ' H' hW => ?_⟩
  obtain ⟨τ', M', em, l2, st2, sm2, h2⟩ := hW
  cases ed : sq.its.drop i with
  | nil =>
    rw [ed] at h2
    have hl : sq.its.length ≤ i := List.drop_eq_nil_iff.mp ed
    exact .inl ⟨(so i H' M' l2 sm2 h2.1).2 (by omega), hn _ _ _ _ (l1.trans l2) st2 sm2 h2.2⟩
  | cons x xs =>
    rw [ed] at h2
    have hi : sq.its[i]? = some x := by
      have : (sq.its.drop i)[0]? = some x := by rw [ed]; rfl
      rw [List.getElem?_drop] at this
      exact this
    have ht : sq.its.drop (i + 1) = xs := by
      rw [← List.drop_drop, ed]
      rfl
    have hil : i < sq.its.length := (List.getElem?_eq_some_iff.mp hi).1
    obtain ⟨hgo, hy⟩ := (so i H' M' l2 sm2 h2.1).1 x hi
    refine .inr ⟨hgo, fun σ3 H3 => ∃ τ3 M3, Le H1 H3 ∧ SRt X.K σ3 H3 τ3 ∧ SRm X.K P H3 M3 ∧ forP sq.ok step nx xs τ3 M3, fun σ3 H3 hN => ?_, fun v H3 yl => ?_⟩
    · obtain ⟨τ3, M3, l3, st3, sm3, h3⟩ := hN
      exact ⟨m - 1, by omega, τ3, M3, by omega, l3, st3, sm3, by rw [ht]; exact h3⟩
    · obtain ⟨l3, sm3, r3⟩ := hy v H3 yl
      refine ⟨P, x, τ', M', _, r3, st2.mono l3, sm3, h2.2, fun σ4 H4 τ4 M4 l4 st4 sm4 h4 => ?_⟩
      have l14 : Le H1 H4 := (l2.trans l3).trans l4
      have l04 : Le H H4 := l1.trans l14
      have kN : ContT X.K P H4 (dropT (forP sq.ok step nx xs)) (fun σ3 H3 => ∃ τ3 M3, Le H1 H3 ∧ SRt X.K σ3 H3 τ3 ∧ SRm X.K P H3 M3 ∧ forP sq.ok step nx xs τ3 M3) := fun σ5 H5 τ5 M5 l5 st5 sm5 ⟨M6, fg, h5⟩ => ⟨τ5, M6, l14.trans l5, st5, sm5.fg fg, h5⟩
      exact ⟨P, _, _, τ4, M4, st4, sm4, h4, kN, ⟨hj.rt.mono l04, hn.mono l04, kN, hj.ex.mono l04⟩⟩
theorem ws_for {iter : Expr} (hp : PassesOwn (model X.prog X.w) X.A X.env X.xe) (hc : X.calm = true) (hi : WI X W tg iter wi) (hg : WG X tg wg) (hb : WSs X W body w1)
    (hs : ∀ x, foldedSetIterable iter X.env x = pure x) : WS X W (.For tg iter body [] pos) (wFor wi wg w1) := PS.imp (ps_for hp hc hi hg hb hs) fun D σ H h => lift_for h
theorem ws_forH {iter : Expr} (hp : PassesOwn (model X.prog X.w) X.A X.env X.xe) (hc : L2H.HotC X) (hi : WIH X W tg iter wi) (hg : WG X tg wg) (hb : WSs X W body w1)
    (hs : ∀ x, foldedSetIterable iter X.env x = pure x) : WS X W (.For tg iter body [] pos) (wFor wi wg w1) := PS.imp (L2H.ps_forH hp hc hi hg hb hs) fun D σ H h => lift_for h
def wWhile (wt : ZWt) (wb : ZWs) : ZWs := fun J nx τ M => ∃ I : Nat → Tau → Mp → Prop, (∃ m, I m τ M) ∧ ∀ m τ M, I m τ M → wt (J.ex τ) τ M fun b M1 =>
  if b = true then wb { J with bk := nx, ct := dropT fun τ' M' => ∃ m', m' < m ∧ I m' τ' M' } (dropT fun τ' M' => ∃ m', m' < m ∧ I m' τ' M') τ M1 else nx τ M1
theorem ws_while {c : Expr} (hp : PassesOwn (model X.prog X.w) X.A X.env X.xe) (hc : WT X W c wt) (hb : WSs X W body w1) : WS X W (.While c body [] pos) (wWhile wt w1) := PS.imp (ps_while hp hc hb) fun D σ H h => by
  obtain ⟨P, J, nx, τ, M, st, sm, ⟨I, ⟨m0, i0⟩, hI⟩, hn, hj⟩ := h
  refine ⟨fun m σ' H' => ∃ τ' M', Le H H' ∧ SRt X.K σ' H' τ' ∧ SRm X.K P H' M' ∧ I m τ' M', ⟨m0, τ, M, Le.refl, st, sm, i0⟩, fun m σ1 H1 hW => ?_⟩
  obtain ⟨τ1, M1, l1, st1, sm1, i1⟩ := hW
  refine ⟨P, J.ex τ1, τ1, M1, _, st1, sm1, hI m τ1 M1 i1, fun b H2 M2 l2 sm2 h2 => ?_, hj.ex _ _ _ l1 st1⟩
  have l02 := l1.trans l2
  cases b with
  | true =>
    dsimp only at h2 ⊢
    rw [if_pos rfl] at h2 ⊢
    refine ⟨fun σ3 H3 => ∃ τ3 M3, Le H H3 ∧ SRt X.K σ3 H3 τ3 ∧ SRm X.K P H3 M3 ∧ ∃ m', m' < m ∧ I m' τ3 M3, fun σ3 H3 hN => ?_, ?_⟩
    · obtain ⟨τ3, M3, l3, st3, sm3, m', lt, i3⟩ := hN
      exact ⟨m', lt, τ3, M3, l3, st3, sm3, i3⟩
    · have kN : ContT X.K P H2 (dropT fun τ' M' => ∃ m', m' < m ∧ I m' τ' M') (fun σ3 H3 => ∃ τ3 M3, Le H H3 ∧ SRt X.K σ3 H3 τ3 ∧ SRm X.K P H3 M3 ∧ ∃ m', m' < m ∧ I m' τ3 M3) := fun σ5 H5 τ5 M5 l5 st5 sm5 ⟨M6, fg, h5⟩ => ⟨τ5, M6, l02.trans l5, st5, sm5.fg fg, h5⟩
      exact ⟨P, _, _, τ1, M2, st1.mono l2, sm2, h2, kN, ⟨hj.rt.mono l02, hn.mono l02, kN, hj.ex.mono l02⟩⟩
  | false =>
    dsimp only at h2 ⊢
    rw [if_neg (by decide)] at h2 ⊢
    exact hn _ _ _ _ l02 (st1.mono l2) sm2 h2
end
end Zd

set_option Elab.async false
set_option linter.all false
set_option maxRecDepth 100000
set_option maxHeartbeats 4000000
/-! Zd 6: list comprehensions, defs. -/
namespace Zd
open PySem PySem.Spec PyProof.Rows L2

section
variable {K : PySem.W.Frag} {P H : Hp} {M : Mp} {D : Addr} {o o' : HO}
/-- something new, out of the user's sight -/
theorem SRm.pinnew (s : SRm K P H M) (h : H D = none) : SRm K (upd P D o) (upd H D o) M := by
  have k := s.new_tup (o := o) h
  refine ⟨k.ok, k.own, fun a u e => ?_⟩
  by_cases ha : a = D
  · subst ha
    rw [upd_same] at e ⊢
    exact ⟨e, s.fresh h⟩
  · rw [upd_ne ha] at e
    exact k.pin a u e
theorem SRm.pinset (s : SRm K (upd P D o) H M) (l : Le H (upd H D o')) : SRm K (upd P D o') (upd H D o') M := by
  have hD : M D = none := (s.pin D o upd_same).2
  refine ⟨fun a u e => ?_, s.own, fun a u e => ?_⟩
  · have ha : a ≠ D := fun z => by subst z; rw [hD] at e; cases e
    refine MOk.mono l (upd_ne ha) (fun φ F z b hb => ?_) (s.ok a u e)
    subst z
    rcases s.own a φ F e b hb with rfl | z
    · exact upd_ne ha
    · exact upd_ne fun y => by subst y; rw [hD] at z; cases z
  · by_cases ha : a = D
    · subst ha
      rw [upd_same] at e ⊢
      exact ⟨e, hD⟩
    · rw [upd_ne ha] at e ⊢
      exact s.pin a u (by rw [upd_ne ha]; exact e)
theorem SRm.unpin {vs : List V} {xs : List PV} (s : SRm K (upd P D (.lst vs)) H M) (hP : P D = none) (r : Rs K H xs vs) : SRm K P H (mu M D (.lst xs)) := by
  obtain ⟨hH, hD⟩ := s.pin D _ upd_same
  refine ⟨fun a u e => ?_, fun a φ F e b hb => ?_, fun a u e => ?_⟩
  · by_cases ha : a = D
    · subst ha
      rw [mu_same] at e
      cases e
      exact ⟨vs, hH, r⟩
    · rw [mu_ne ha] at e
      exact s.ok a u e
  · by_cases ha : a = D
    · subst ha
      rw [mu_same] at e
      cases e
    · rw [mu_ne ha] at e
      rcases s.own a φ F e b hb with z | z
      · exact .inl z
      · exact .inr (by rw [mu_ne fun y => by subst y; rw [hD] at z; cases z]; exact z)
  · have ha : a ≠ D := fun z => by subst z; rw [hP] at e; cases e
    obtain ⟨h1, h2⟩ := s.pin a u (by rw [upd_ne ha]; exact e)
    exact ⟨h1, by rw [mu_ne ha]; exact h2⟩
theorem SRm.notpin (s : SRm K P H M) (h : H D = none) : P D = none := by
  cases q : P D with
  | none => rfl
  | some u => rw [(s.pin D u q).1] at h; cases h
end
def wipeT (τ : Tau) : List Nat → Tau
  | [] => τ
  | v :: vs => (wipeT τ vs).set v none
theorem wipeT_len (τ : Tau) : ∀ vs, (wipeT τ vs).length = τ.length
  | [] => rfl
  | v :: vs => by unfold wipeT; rw [List.length_set, wipeT_len τ vs]
theorem SRt.wipe {K : PySem.W.Frag} {H : Hp} {σ : L2.St} {τ : Tau} (s : SRt K σ H τ) : ∀ vs : List Nat, SRt K (L2.wipe σ vs) H (wipeT τ vs)
  | [] => s
  | v :: vs => by
    have ih := SRt.wipe s vs
    refine ⟨by rw [wipe_length, wipeT_len]; exact s.1, fun i x e => ?_⟩
    unfold wipeT at e
    by_cases hi : v = i
    · subst hi
      by_cases hl : v < (wipeT τ vs).length
      · rw [List.getElem?_set_self hl] at e
        cases e
      · rw [List.set_eq_of_length_le (by omega)] at e
        rw [List.getElem?_eq_none (by omega)] at e
        cases e
    · rw [List.getElem?_set_ne hi] at e
      obtain ⟨w, h1, h2⟩ := ih.2 i x e
      refine ⟨w, ?_, h2⟩
      show ((L2.wipe σ vs).set v none)[i]? = _
      rw [List.getElem?_set_ne hi]
      exact h1
theorem wipe_get (σ : L2.St) : ∀ (vs : List Nat) (i : Nat), (L2.wipe σ vs)[i]? = if i ∈ vs then (if i < σ.length then some none else none) else σ[i]?
  | [], i => by simp [L2.wipe]
  | v :: vs, i => by
    show ((L2.wipe σ vs).set v none)[i]? = _
    by_cases hi : v = i
    · subst hi
      rw [if_pos List.mem_cons_self]
      by_cases hl : v < σ.length
      · rw [if_pos hl, List.getElem?_set_self (by rw [wipe_length]; exact hl)]
      · rw [if_neg hl, List.getElem?_eq_none (by rw [List.length_set, wipe_length]; omega)]
    · rw [List.getElem?_set_ne hi, wipe_get σ vs i]
      have e : (i ∈ v :: vs) ↔ i ∈ vs := by
        rw [List.mem_cons]
        exact ⟨fun h => h.resolve_left (Ne.symm hi), .inr⟩
      simp only [e]
/-- equal but at vs -/
def SameOut (vs : List Nat) (σ σ' : L2.St) : Prop := σ'.length = σ.length ∧ ∀ j, j ∉ vs → σ'[j]? = σ[j]?
theorem SameOut.refl {vs : List Nat} {σ : L2.St} : SameOut vs σ σ := ⟨rfl, fun _ _ => rfl⟩
theorem SameOut.trans {vs : List Nat} {σ σ1 σ2 : L2.St} (a : SameOut vs σ σ1) (b : SameOut vs σ1 σ2) : SameOut vs σ σ2 := ⟨b.1.trans a.1, fun j h => (b.2 j h).trans (a.2 j h)⟩
theorem SameOut.set {vs : List Nat} {σ : L2.St} {i : Nat} {o : Option V} (h : i ∈ vs) : SameOut vs σ (σ.set i o) := ⟨List.length_set, fun j hj => List.getElem?_set_ne fun z : i = j => hj (by rw [← z]; exact h)⟩
theorem SameOut.wipe_eq {vs : List Nat} {σ σ' : L2.St} (h : SameOut vs (L2.wipe σ vs) σ') : L2.wipe σ' vs = L2.wipe σ vs := by
  apply List.ext_getElem?
  intro i
  rw [wipe_get, wipe_get]
  by_cases hi : i ∈ vs
  · rw [if_pos hi, if_pos hi, h.1, wipe_length]
  · rw [if_neg hi, if_neg hi, h.2 i hi, wipe_get, if_neg hi]
def liftV (K : PySem.W.Frag) (vs : List Nat) (w : ZWg) : TG := fun v σ H Q => ∃ P x τ M Q', R K H x v ∧ SRt K σ H τ ∧ SRm K P H M ∧ w x τ M Q' ∧
  ∀ σ' H' τ' M', Le H H' → SameOut vs σ σ' → SRt K σ' H' τ' → SRm K P H' M' → Q' τ' M' → Q σ' H'
def liftVs (K : PySem.W.Frag) (vs : List Nat) (w : ZWgs) : TGs := fun us σ H Q => ∃ P xs τ M Q', Rs K H xs us ∧ SRt K σ H τ ∧ SRm K P H M ∧ w xs τ M Q' ∧
  ∀ σ' H' τ' M', Le H H' → SameOut vs σ σ' → SRt K σ' H' τ' → SRm K P H' M' → Q' τ' M' → Q σ' H'
section
variable {X : Cx} {W : L2.WX} {e tg : Expr} {es : List Expr} {wg : ZWg} {ws : ZWgs} {vs : List Nat} {pos p : Pos}
theorem wv_name {i : Nat} {x : Str} (h : PG X (.Name x pos) (gName i)) (hi : i ∈ vs) : PG X (.Name x pos) (liftV X.K vs (wgName i)) := PG.imp h fun v σ H Q h => by
  obtain ⟨P, x, τ, M, Q', r, st, sm, hw, hc⟩ := h
  exact hc _ _ _ _ Le.refl (SameOut.set hi) (st.set r) sm hw
theorem wvs_nil : PGs X [] (liftVs X.K vs wgNil) := PGs.imp pgs_nil fun v σ H Q h => by
  obtain ⟨P, xs, τ, M, Q', r, st, sm, hw, hc⟩ := h
  obtain ⟨rfl, hw⟩ := hw
  exact ⟨r, hc _ _ _ _ Le.refl SameOut.refl st sm hw⟩
theorem wvs_cons (h1 : PG X e (liftV X.K vs wg)) (h2 : PGs X es (liftVs X.K vs ws)) (hs : (assignEach (e :: es) X.env).map (·.2) = assign e X.env :: (assignEach es X.env).map (·.2)) : PGs X (e :: es) (liftVs X.K vs (wgCons wg ws)) :=
  PGs.imp (pgs_cons h1 h2 hs) fun v σ H Q h => by
    obtain ⟨P, xs, τ, M, Q', r, st, sm, hw, hc⟩ := h
    cases xs with
    | nil => exact hw.elim
    | cons x xs =>
      obtain ⟨u, us, rfl, r1, r2⟩ := r
      refine ⟨u, us, rfl, P, x, τ, M, _, r1, st, sm, hw, fun σ' H' τ' M' l so st' sm' h' => ?_⟩
      exact ⟨P, xs, τ', M', Q', Rs.mono l _ _ r2, st', sm', h', fun a b c d l2 so2 => hc a b c d (l.trans l2) (so.trans so2)⟩
theorem wv_tup {k n : Nat} (hc : X.calm = true) (h : PGs X es (liftVs X.K vs ws)) (hw : ∀ xs τ M Q, ws xs τ M Q → xs.length = n) (hn : (assignEach es X.env).length = n) (hst : (assignEach es X.env).findIdx? (·.1) = none) : PG X (.Tuple es k pos) (liftV X.K vs (wgTup ws)) :=
  PG.imp (pg_tup hc h hn hst) fun v σ H Q h => by
    obtain ⟨P, x, τ, M, Q', r, st, sm, hq, hk⟩ := h
    cases x with
    | tup xs =>
      obtain ⟨a, us, rfl, sa, ra⟩ := r
      exact ⟨a, us, rfl, sa, by rw [ra.length]; exact hw _ _ _ _ hq, P, xs, τ, M, Q', ra, st, sm, hq, hk⟩
    | _ => exact hq.elim
end
/-! ### [elt for tg in iter if test] -/
def lcP (ok : Mp → Prop) (f : PV → Mp → (Option PV → Mp → Prop) → Prop) (fin : List PV → Mp → Prop) : List PV → List PV → Mp → Prop
  | [], acc, M => ok M ∧ fin acc M
  | x :: xs, acc, M => ok M ∧ f x M fun o M' => match o with
    | some y => acc.length < sizeLine ∧ ∃ M2, Fg M2 M' ∧ lcP ok f fin xs (acc ++ [y]) M2
    | none => ∃ M2, Fg M2 M' ∧ lcP ok f fin xs acc M2
def lcF (τ : Tau) (wg : ZWg) (wt : ZWt) (we : ZWe) : PV → Mp → (Option PV → Mp → Prop) → Prop := fun x M k => wg x τ M fun τ2 M2 => wt E0x τ2 M2 fun b M3 => if b = true then we E0x τ2 M3 fun y M4 => k (some y) M4 else k none M3
def allocL (Q : ZQ) (acc : List PV) (M : Mp) : Prop := ∀ p, M p = none → Q (.ref p) (mu M p (.lst acc))
def wLc (wi : ZWi) (wg : ZWg) (wt : ZWt) (we : ZWe) (vs : List Nat) : ZWe := fun E τ M Q => wi E τ M fun sq M1 => lcP sq.ok (lcF (wipeT τ vs) wg wt we) (allocL Q) sq.its [] M1
section
variable {X : Cx} {W : L2.WX} {tg iter elt : Expr} {wi : ZWi} {wg : ZWg} {wt : ZWt} {we : ZWe} {vs : List Nat}
theorem lift_lc {σ : L2.St} {H : Hp} {Q : VK} (h : lift X.K X.mg W (wLc wi wg wt we vs) σ H Q) : tLc (liftI X.K X.mg W wi) (liftV X.K vs wg) (liftT X.K X.mg W0 wt) (lift X.K X.mg W0 we) vs σ H Q := by
  obtain ⟨P, E, τ, M, Q', st, sm, hw, hc, hE⟩ := h
  refine ⟨P, E, τ, M, _, st, sm, hw, fun J H1 sq M1 l1 sm1 so h1 => ?_, hE⟩
  intro D hD
  have hP : P D = none := sm1.notpin hD
  refine ⟨fun i m H' => ∃ acc vacc M', m + i = sq.its.length ∧ Le H1 H' ∧ SRm X.K (upd P D (.lst vacc)) H' M' ∧ Rs X.K H' acc vacc ∧ lcP sq.ok (lcF (wipeT τ vs) wg wt we) (allocL Q') (sq.its.drop i) acc M',
    ⟨sq.its.length, [], [], M1, rfl, Le.new hD, sm1.pinnew hD, rfl, h1⟩, fun i m H' hW => ?_⟩
  obtain ⟨acc, vacc, M', em, l2, sm2, ra, h2⟩ := hW
  cases ed : sq.its.drop i with
  | nil =>
    rw [ed] at h2
    have hl : sq.its.length ≤ i := List.drop_eq_nil_iff.mp ed
    refine .inl ⟨(so i H' M' l2 sm2 h2.1).2 (by omega), ?_⟩
    exact hc _ _ (.ref D) _ (l1.trans l2) (sm2.unpin hP ra) rfl (h2.2 D (sm2.pin D _ upd_same).2)
  | cons x xs =>
    rw [ed] at h2
    have hi : sq.its[i]? = some x := by
      have : (sq.its.drop i)[0]? = some x := by rw [ed]; rfl
      rw [List.getElem?_drop] at this
      exact this
    have ht : sq.its.drop (i + 1) = xs := by
      rw [← List.drop_drop, ed]
      rfl
    have hil : i < sq.its.length := (List.getElem?_eq_some_iff.mp hi).1
    obtain ⟨hgo, hy⟩ := (so i H' M' l2 sm2 h2.1).1 x hi
    refine .inr ⟨hgo, fun H3 => ∃ acc vacc M3, Le H1 H3 ∧ SRm X.K (upd P D (.lst vacc)) H3 M3 ∧ Rs X.K H3 acc vacc ∧ lcP sq.ok (lcF (wipeT τ vs) wg wt we) (allocL Q') xs acc M3, fun H3 hN => ?_, fun v H3 yl => ?_⟩
    · obtain ⟨acc3, vacc3, M3, l3, sm3, r3, h3⟩ := hN
      exact ⟨m - 1, by omega, acc3, vacc3, M3, by omega, l3, sm3, r3, by rw [ht]; exact h3⟩
    · obtain ⟨l3, sm3, r3⟩ := hy v H3 yl
      have l03 : Le H H3 := (l1.trans l2).trans l3
      refine ⟨_, x, wipeT τ vs, M', _, r3, (st.mono l03).wipe vs, sm3, h2.2, fun σ4 H4 τ4 M4 l4 so4 st4 sm4 h4 => ?_⟩
      refine ⟨so4.wipe_eq, _, E0x, τ4, M4, _, st4, sm4, h4, fun b H5 M5 l5 sm5 h5 => ?_, exl0⟩
      have l35 : Le H3 H5 := l4.trans l5
      have l25 : Le H' H5 := l3.trans l35
      cases b with
      | true =>
        dsimp only at h5 ⊢
        rw [if_pos rfl] at h5 ⊢
        refine ⟨_, E0x, τ4, M5, _, st4.mono l5, sm5, h5, fun y H6 py M6 l6 sm6 r6 h6 => ?_, exl0⟩
        have hD6 := (sm6.pin D _ upd_same).1
        have l7 : Le H6 (upd H6 D (.lst (vacc ++ [y]))) := Le.lst hD6
        obtain ⟨h6a, M7, fg, h6⟩ := h6
        refine ⟨vacc, hD6, by rw [ra.length]; exact h6a, acc ++ [py], vacc ++ [y], M7, ((l2.trans l25).trans l6).trans l7, (sm6.pinset l7).fg fg, ?_, h6⟩
        exact Rs.append (Rs.mono ((l25.trans l6).trans l7) _ _ ra) (Rs.one (R.mono l7 _ _ r6))
      | false =>
        dsimp only at h5 ⊢
        rw [if_neg (by decide)] at h5 ⊢
        obtain ⟨M7, fg, h5⟩ := h5
        exact ⟨acc, vacc, M7, l2.trans l25, sm5.fg fg, Rs.mono l25 _ _ ra, h5⟩
theorem we_lc {ifs : List Expr} {scope : Scope} {own : List (Str × Nat)} {pos : Pos} (hc : X.calm = true) (hN : X.N.Nodup) (hi : WI X W tg iter wi) (ok : BlkOk X.N X.env.scope scope own)
    (hg : ∀ (s : Shared) (H : Hp) (C : Addr) (cl : List (Str × Addr)) (fp : List Addr), PG (X.blk s H scope (compEnvC scope cl C X.env) fp) tg (liftV X.K (own.map (·.2)) wg))
    (ht : ∀ (s : Shared) (H : Hp) (C : Addr) (cl : List (Str × Addr)) (fp : List Addr), PTs (X.blk s H scope (compEnvC scope cl C X.env) fp) ifs (liftT X.K X.mg W0 wt))
    (he : ∀ (s : Shared) (H : Hp) (C : Addr) (cl : List (Str × Addr)) (fp : List Addr), PE (X.blk s H scope (compEnvC scope cl C X.env) fp) elt (lift X.K X.mg W0 we)) (hs : ∀ x, foldedSetIterable iter X.env x = pure x) :
    WE X W (.ListComp elt [⟨tg, iter, ifs, 0⟩] scope pos) (wLc wi wg wt we (own.map (·.2))) := PE.imp (pe_lc hc hN hi ok hg ht he hs) fun σ H Q h => lift_lc h
theorem ws_setLc {i : Nat} {y : Str} {py : Pos} {ifs : List Expr} {scope : Scope} {own : List (Str × Nat)} {pos spos : Pos} (hc : X.calm = true) (hN : X.N.Nodup) (hy : X.N[i]? = some y) (hyl : X.env.scope.names.lookup y = some .local)
    (hsw : swapsWith (.ListComp elt [⟨tg, iter, ifs, 0⟩] scope pos) (some (.Name y py)) spos.line X.env = pure true) (hi : WI X W tg iter wi) (ok : BlkOk X.N X.env.scope scope own)
    (hg : ∀ (s : Shared) (H : Hp) (C : Addr) (cl : List (Str × Addr)) (fp : List Addr), PG (X.blk s H scope (compEnvC scope cl C X.env) fp) tg (liftV X.K (own.map (·.2)) wg))
    (ht : ∀ (s : Shared) (H : Hp) (C : Addr) (cl : List (Str × Addr)) (fp : List Addr), PTs (X.blk s H scope (compEnvC scope cl C X.env) fp) ifs (liftT X.K X.mg W0 wt))
    (he : ∀ (s : Shared) (H : Hp) (C : Addr) (cl : List (Str × Addr)) (fp : List Addr), PE (X.blk s H scope (compEnvC scope cl C X.env) fp) elt (lift X.K X.mg W0 we)) (hs : ∀ x, foldedSetIterable iter X.env x = pure x) :
    WS X W (.Assign [.Name y py] (.ListComp elt [⟨tg, iter, ifs, 0⟩] scope pos) spos) (wAsg (wLc wi wg wt we (own.map (·.2))) (wgName i)) :=
  PS.imp (ps_setLc hc hN hy hyl hsw hi ok hg ht he hs) fun D σ H h => lift_asg (we := wLc wi wg wt we (own.map (·.2))) (fun _ _ _ h => lift_lc h) (fun v σ H Q h => by
    obtain ⟨P, x, τ, M, Q', r, st, sm, hw, hk⟩ := h
    exact hk _ _ _ _ Le.refl (st.set r) sm hw) h
theorem wts_nil : PTs X [] (liftT X.K X.mg W (fun _ _ M Q => Q true M)) := ⟨fun pins s σ H Q I h => by
  refine pts_nil.run pins s σ H Q I ?_
  obtain ⟨P, E, τ, M, Q', st, sm, hw, hk, _⟩ := h
  exact hk _ _ _ Le.refl sm hw⟩
end
/-! ### a def -/
def startT (n : Nat) (xs : List PV) : Tau := xs.map some ++ List.replicate (n - xs.length) none
theorem start_rel {K : PySem.W.Frag} {H : Hp} {N : List Str} {xs : List PV} {vs : List V} (r : Rs K H xs vs) : SRt K (start N vs) H (startT N.length xs) := by
  have hl := r.length
  unfold L2.start startT
  refine ⟨by simp [hl], fun i x e => ?_⟩
  by_cases hi : i < xs.length
  · rw [List.getElem?_append_left (by simpa using hi), List.getElem?_map] at e
    cases q : xs[i]? with
    | none => rw [q] at e; cases e
    | some y =>
      rw [q] at e
      cases e
      obtain ⟨v, h1, h2⟩ := r.get q
      refine ⟨v, ?_, h2⟩
      rw [List.getElem?_append_left (by simpa [hl] using hi), List.getElem?_map, h1]
      rfl
  · rw [List.getElem?_append_right (by simpa using hi)] at e
    rw [List.getElem?_replicate] at e
    split at e <;> cases e
/-- what is to be shown of a body -/
def Meets (n np : Nat) (w : ZWs) (ms : ZSp) : Prop := ∀ xs M Q E, ms xs M Q E → xs.length = np ∧ w ⟨dropQ Q, fun _ _ => False, fun _ _ => False, fun _ => E⟩ (fun _ M' => dropQ Q .non M') (startT n xs) M
/-- the same, behind a look at what is hidden -/
def MeetsO (n np : Nat) (w : ZWs) (ms : ZSp) : Prop := ∀ xs M Q E, ms xs M Q E → xs.length = np ∧ ∀ (K : PySem.W.Frag) (P H : Hp), SRm K P H M →
  ∃ M1, SRm K P H M1 ∧ w ⟨dropQ Q, fun _ _ => False, fun _ _ => False, fun _ => E⟩ (fun _ M' => dropQ Q .non M') (startT n xs) M1
theorem Meets.o {n np : Nat} {w : ZWs} {ms : ZSp} (h : Meets n np w ms) : MeetsO n np w ms := fun xs M Q E q => ⟨(h xs M Q E q).1, fun _ _ _ s => ⟨M, s, (h xs M Q E q).2⟩⟩
theorem fn_ok {P : Program} {w : World} {K : PySem.W.Frag} {mg : Gm} {base : Heap} {x qual : Str} {st : Stmt} {f : Addr} {fd : FuncData} {N ps : List Str} {k : Nat} {ms : ZSp} {wb : ZWs}
    (F : L2.Fun K x qual st f fd) (S : FnScope N ps (defScope st)) (hm : MeetsO N.length ps.length wb ms)
    (hb : ∀ (cdv : Value) (A : Around) (outer : List Env) (s : Shared) (H : Hp) (E : XK), Room k (A.deeper (envOfC qual (defScope st) s.heap.objs.size f cdv)) →
      WSs (cxOf (L2N.CX P w) P w K mg base N qual (defScope st) f cdv A outer s H E) (fun cls d _ H => E cls d H) (defBody st) wb) :
    FnOk P w K mg base (L2N.CX P w) (k + 1) f fd ps (toSp K mg ms) := by
  refine okN F S (fun vs H Q E h => ?_) fun cdv A outer s H vs Q E hr h => ?_
  · obtain ⟨P', xs, M, Q', E', r, sm, q, _⟩ := h
    rw [r.length]
    exact (hm xs M Q' E' q).1
  · refine ⟨_, hb cdv A outer s H E hr, ?_⟩
    obtain ⟨P', xs, M, Q', E', r, sm, q, hc, hE⟩ := h
    have hc : Cont K P' H (dropQ Q') Q := fun _ _ _ _ l sm' r' ⟨_, fg, h'⟩ => hc _ _ _ _ l (fg _ _ _ sm') r' h'
    obtain ⟨M1, sm1, hw1⟩ := (hm xs M Q' E' q).2 K P' H sm
    refine ⟨P', _, _, _, M1, start_rel r, sm1, hw1, fun σ' H' τ' M' l st' sm' h' => hc _ _ .non _ l sm' rfl h', ⟨hc, fun _ _ _ _ _ _ _ h => h.elim, fun _ _ _ _ _ _ _ h => h.elim, fun σ' H' τ' l st' => ?_⟩⟩
    exact fun c fs M' cls d H2 l2 sm2 x e => hE c fs M' cls d H2 (l.trans l2) sm2 x e
theorem fn_okH {P : Program} {w : World} {K : PySem.W.Frag} {mg : Gm} {base : Heap} {x qual : Str} {st : Stmt} {f : Addr} {fd : FuncData} {N ps : List Str} {k : Nat} {ms : ZSp} {wb : ZWs}
    (F : L2.Fun K x qual st f fd) (S : FnScope N ps (defScope st)) (hm : MeetsO N.length ps.length wb ms)
    (hb : ∀ (cdv : Value) (A : Around) (outer : List Env) (s : Shared) (H : Hp) (E : XK) (p : Addr × Obj), L2H.Hot1 A p → L2H.RoomH k (A.deeper (envOfC qual (defScope st) s.heap.objs.size f cdv)) →
      WSs (L2H.cxH (L2N.CX P w) P w K mg base N qual (defScope st) f cdv A outer s H E p) (fun cls d _ H => E cls d H) (defBody st) wb) :
    L2H.FnH P w K mg base (L2N.CX P w) (k + 1) f fd ps (toSp K mg ms) := by
  refine okNH F S (fun vs H Q E h => ?_) fun cdv A outer s H vs Q E p hp hr h => ?_
  · obtain ⟨P', xs, M, Q', E', r, sm, q, _⟩ := h
    rw [r.length]
    exact (hm xs M Q' E' q).1
  · refine ⟨_, hb cdv A outer s H E p hp hr, ?_⟩
    obtain ⟨P', xs, M, Q', E', r, sm, q, hc, hE⟩ := h
    have hc : Cont K P' H (dropQ Q') Q := fun _ _ _ _ l sm' r' ⟨_, fg, h'⟩ => hc _ _ _ _ l (fg _ _ _ sm') r' h'
    obtain ⟨M1, sm1, hw1⟩ := (hm xs M Q' E' q).2 K P' H sm
    refine ⟨P', _, _, _, M1, start_rel r, sm1, hw1, fun σ' H' τ' M' l st' sm' h' => hc _ _ .non _ l sm' rfl h', ⟨hc, fun _ _ _ _ _ _ _ h => h.elim, fun _ _ _ _ _ _ _ h => h.elim, fun σ' H' τ' l st' => ?_⟩⟩
    exact fun c fs M' cls d H2 l2 sm2 x e => hE c fs M' cls d H2 (l.trans l2) sm2 x e
end Zd

set_option Elab.async false
set_option linter.all false
set_option maxRecDepth 100000
set_option maxHeartbeats 8000000
/-! Zd 14: enumerate(x), zip(x, y): x, y lists or tuples. -/
namespace PySem
open Sem (wp)
open AutoSeq1 (wpAny_loadPart')
theorem zd_enum_new {v : Value} {o : Obj} {H : Heap → Prop} (B : Begins v o H) :
    Meets (Builtin.«enumerate.__new__» ⟨[.type "enumerate", v], []⟩) (fun _ R s => H s.heap ∧ R (.ok (.ret (.ref (s.heap.push o).objs.size))) { s with heap := (s.heap.push o).push { cls := .type "enumerate", data := .fields #[.none, .bool false, .ref s.heap.objs.size, rawInt 0, .none, .none] } }) :=
  .of_wp fun prog w A R s h => by
    obtain ⟨hp, g, d, tk, os⟩ := s
    obtain ⟨hH, hR⟩ := h
    have hsub := sub_enumerate
    have it1 : ∀ {A' : Around} {E : Value → Shared → Prop} {Q : Value → Shared → Prop}, Q (.ref hp.objs.size) ⟨hp.push o, g, d, tk, os⟩ → wpAny (model prog w) A' (pyIter v) Q E ⟨hp, g, d, tk, os⟩ := fun q => B.iter prog w _ _ ⟨hp, g, d, tk, os⟩ _ hH q
    wp_walk using it1
    refine wpAny_stack_any fun _ => wpAny_pure ?_
    split
    · rename_i c _ _ _ _ _
      cases (c == Value.type "enumerate") <;> (wp_walk using it1; exact ⟨_, rfl, hR⟩)
    · (wp_walk using it1); exact ⟨_, rfl, hR⟩
theorem zd_enum {prog : Program} {w : World} {A : Around} {E : Value → Shared → Prop} {s : Shared} {v : Value} {o : Obj} {H : Heap → Prop} {Q : Value → Shared → Prop} (B : Begins v o H) (h1 : H s.heap)
    (h : ∀ h', IsEnum h' (s.heap.objs.size + 1) s.heap.objs.size 0 .none → h'.get? s.heap.objs.size = some o → (∀ b u, s.heap.get? b = some u → h'.get? b = some u) → Q (.ref (s.heap.objs.size + 1)) { s with heap := h' }) :
    wpAny (model prog w) A (call (.type "enumerate") [v]) Q E s := by
  refine callType_new F.called_enumerate (by decide) (F.typeCall_enumerate_1 _) (F.newCall_enumerate_1 _) (fun obj => F.args_object_init_2 obj _) F.entry_enumerate_new (zd_enum_new B) ⟨h1, ?_⟩
  have z : (s.heap.push o).objs.size = s.heap.objs.size + 1 := Heap.size_push ..
  show _ ∧ _
  rw [z]
  have e1 : IsEnum ((s.heap.push o).push { cls := .type "enumerate", data := .fields #[.none, .bool false, .ref s.heap.objs.size, rawInt 0, .none, .none] }) (s.heap.objs.size + 1) s.heap.objs.size 0 .none := by
    have q := Heap.get?_push_size (s.heap.push o) (o := { cls := .type "enumerate", data := .fields #[.none, .bool false, .ref s.heap.objs.size, rawInt 0, .none, .none] }) rfl
    rw [z] at q
    exact q
  exact ⟨⟨_, e1, rfl⟩, h _ e1 (Heap.get?_push_of_some _ (Heap.get?_push_size _ B.free)) fun b u x => Heap.get?_push_of_some _ (Heap.get?_push_of_some _ x)⟩
end PySem
namespace Zd
open PySem PySem.Spec PyProof.Rows L2

/-- what is walked: a list, a tuple -/
inductive Sr where
  | l (a : Addr) | t (a : Addr)
def Sr.sq (K : PySem.W.Frag) (H : Hp) : Sr → List V → Prop
  | .l a, xs => SqL K H a xs
  | .t a, xs => SqT K H a xs
def Sr.it (h : Heap) (i : Addr) (n : Nat) : Sr → Prop
  | .l a => h.IsListIter i a n
  | .t a => h.IsTupleIter i a n
def Sr.obj : Sr → Obj
  | .l a => { cls := .type "list_iterator", data := .fields #[.ref a, .int 0 0] }
  | .t a => { cls := .type "tuple_iterator", data := .fields #[.ref a, .int 0 0] }
def Sr.addr : Sr → Addr
  | .l a => a
  | .t a => a
def Sr.is (h : Heap) (its : List Value) : Sr → Prop
  | .l a => h.IsList a its.toArray
  | .t a => h.IsTuple a its.toArray
theorem Sr.lt {r : Sr} {h : Heap} {its : List Value} (x : r.is h its) : r.addr < h.objs.size := by
  cases r with
  | l a => obtain ⟨o, e, _⟩ := x; exact Heap.lt_size e
  | t a => obtain ⟨o, e, _⟩ := x; exact Heap.lt_size e
theorem Sr.begins (r : Sr) (its : List Value) : Begins (.ref r.addr) r.obj fun h => r.is h its := by
  cases r with
  | l a => exact begins_list a its.toArray
  | t a => exact begins_tuple a its.toArray
theorem Sr.it0 {r : Sr} {h : Heap} {i : Addr} (e : h.get? i = some r.obj) : r.it h i 0 := by
  cases r with
  | l a => exact ⟨_, e, rfl, rfl⟩
  | t a => exact ⟨_, e, rfl, rfl⟩
theorem Sr.ne_it {r : Sr} {h : Heap} {i : Addr} {n : Nat} {its : List Value} (x : r.is h its) (y : r.it h i n) : r.addr ≠ i := by
  cases r with
  | l a =>
    obtain ⟨o, e, c, _⟩ := x
    obtain ⟨o', e', c', _⟩ := y
    intro z
    have z : a = i := z
    subst z
    rw [e] at e'
    cases e'
    rw [c] at c'
    exact absurd c' (by decide)
  | t a =>
    obtain ⟨o, e, c, _⟩ := x
    obtain ⟨o', e', c', _⟩ := y
    intro z
    have z : a = i := z
    subst z
    rw [e] at e'
    cases e'
    rw [c] at c'
    exact absurd c' (by decide)
theorem Sr.draws {prog : Program} {w : World} {A : Around} (hh : A.handled = none) (r : Sr) (i : Addr) (ne : r.addr ≠ i) (its : List Value) :
    Draws prog w A i [i, r.addr] its.length (fun n v => its[n]? = some v) (fun n h => r.it h i n ∧ r.is h its) := by
  cases r with
  | l a =>
    have d := Draws.list (prog := prog) (w := w) hh i a ne its.toArray
    simp only [List.size_toArray, List.getElem?_toArray] at d
    exact d
  | t a =>
    have d := Draws.tuple (prog := prog) (w := w) hh i a ne its.toArray
    simp only [List.size_toArray, List.getElem?_toArray] at d
    exact d
theorem Sr.items {X : Cx} {pins : List (Addr × Obj)} {σ : L2.St} {H : Hp} {s : Shared} (I : Inv X pins σ H s) {r : Sr} {xs : List V} (h : r.sq X.K H xs) : ∃ its : List Value, Vals xs its ∧ r.is s.heap its := by
  cases r with
  | l a => obtain ⟨its, rv, p, _⟩ := I.list h; exact ⟨its, rv, p.isList⟩
  | t a => obtain ⟨its, rv, p, _⟩ := I.tuple h; exact ⟨its, rv, p⟩
theorem Sr.inj {X : Cx} {pins : List (Addr × Obj)} {σ : L2.St} {H : Hp} {s : Shared} (I : Inv X pins σ H s) {r : Sr} {xs ys : List V} (h : r.sq X.K H xs) (h' : r.sq X.K H ys) : xs = ys := by
  cases r with
  | l a => exact I.list_inj h h'
  | t a => exact I.tuple_inj h h'
theorem Sr.at {r : Sr} {h h' : Heap} {i : Addr} {n : Nat} (x : r.it h i n) (k : ∀ o, h.get? i = some o → h'.get? i = some o) : r.it h' i n := by
  cases r with
  | l a => exact Heap.IsListIter.at x k
  | t a => exact Heap.IsTupleIter.at x k
theorem Sr.live {r : Sr} {h : Heap} {i : Addr} {n : Nat} (x : r.it h i n) : ∃ o, h.get? i = some o ∧ ∀ v, o.data ≠ .cell v := by
  cases r with
  | l a => obtain ⟨o, e, _, d⟩ := x; exact ⟨o, e, fun v q => by rw [d] at q; cases q⟩
  | t a => obtain ⟨o, e, _, d⟩ := x; exact ⟨o, e, fun v q => by rw [d] at q; cases q⟩
def ItE (K : PySem.W.Frag) (r : Sr) : It :=
  ⟨fun i H => ∃ xs x, r.sq K H xs ∧ xs[i]? = some x, fun i H v H' => ∃ T x, v = .ref T ∧ H T = none ∧ H' = upd H T (.tup [.int (i : Nat), x]) ∧ ∀ xs, r.sq K H xs → xs[i]? = some x, fun i H => ∃ xs, r.sq K H xs ∧ xs.length = i⟩
theorem turnE {P : Program} {w : World} {K : PySem.W.Frag} {elts : List Expr} {kk : Nat} {tpos : Pos} (r : Sr) (e i0 : Addr) :
    Turn P w K (.Tuple elts kk tpos) (ItE K r) [e, i0] e (fun i h => (∃ old, IsEnum h e i0 ((i : Nat) : Int) old) ∧ r.it h i0 i ∧ e ≠ i0) where
  mem := List.mem_cons_self
  obj := fun i h st b hb => by
    obtain ⟨⟨old, he⟩, hi, _⟩ := st
    rcases List.mem_cons.mp hb with z | z
    · subst z; exact ⟨_, he, fun v q => nomatch q⟩
    · have z : b = i0 := by simpa using z
      subst z; exact Sr.live hi
  keep := fun i h h' st k => by
    obtain ⟨⟨old, he⟩, hi, ne⟩ := st
    exact ⟨⟨old, k e List.mem_cons_self _ he⟩, Sr.at hi fun o q => k i0 (by simp) o q, ne⟩
  item := fun X hP hw hK hc i pins s σ H E I hf st hg => by
    subst hP hw hK
    obtain ⟨⟨old, he⟩, hi, ne⟩ := st
    obtain ⟨xs, x, sq, hx⟩ := hg
    obtain ⟨its, rv, ris⟩ := Sr.items I sq
    obtain ⟨u, hu, ru⟩ := rv.get hx
    have hin : i < its.length := (List.getElem?_eq_some_iff.mp hu).1
    have na : r.addr ≠ i0 := Sr.ne_it ris hi
    have nea : e ≠ r.addr := fun z => by
      cases r with
      | l a => obtain ⟨o, q, c, _⟩ := ris; have z : e = a := z; subst z; rw [he] at q; cases q; have c : Value.type "enumerate" = .type "list" := c; injection c with c; exact absurd c (by decide)
      | t a => obtain ⟨o, q, c, _⟩ := ris; have z : e = a := z; subst z; rw [he] at q; cases q; have c : Value.type "enumerate" = .type "tuple" := c; injection c with c; exact absurd c (by decide)
    have D := Sr.draws (prog := X.prog) (w := X.w) (A := X.A.in1) (I.ok.hd hc) r i0 na its
    have G := GoesN.enumFrom (A := X.A) (elts := elts) (x1 := kk) (pos := tpos) 0 D e ne (by simp [ne, nea]) List.mem_cons_self
    have st' : (∃ old, IsEnum s.heap e i0 ((0 : Int) + (i : Int)) old) ∧ r.it s.heap i0 i ∧ r.is s.heap its := ⟨⟨old, by rw [Int.zero_add]; exact he⟩, hi, ris⟩
    refine G.goes i s _ E hin st' fun v h' tk hY st2 hk htk => ?_
    obtain ⟨T, t, x', rfl, hT, hx', hTup⟩ := hY
    have ex : x' = u := by
      have hx' : its[i]? = some x' := hx'
      rw [hu] at hx'
      exact (Option.some.inj hx').symm
    subst ex
    have new : ObjOk X.prog X.w (upd H T (.tup [.int (i : Nat), x])) h' T (.tup [.int (i : Nat), x]) :=
      ⟨by show 2 ≤ sizeLine; decide, [.int (0 + (i : Int)) t, x'], .cons ⟨t, by rw [Int.zero_add]⟩ (.cons ru .nil), hTup⟩
    have I1 : Inv X pins σ (upd H T (.tup [.int (i : Nat), x])) { s with heap := h', toks := tk } := I.turnedNew (ch := [e, i0]) hk hf hT new
    obtain ⟨⟨old', he'⟩, hi', _⟩ := st2
    have hH : H T = none := I.hok.fresh hT
    refine ⟨.ref T, _, I1, rfl, ⟨T, x, rfl, hH, rfl, fun ys hy => by rw [Sr.inj I hy sq]; exact hx⟩, ⟨⟨old', ?_⟩, hi', ne⟩, fun b hb => ?_⟩
    · rw [Int.zero_add] at he'; exact he'
    · have lt : b < s.heap.objs.size := by
        rcases List.mem_cons.mp hb with z | z
        · subst z; exact Heap.lt_size he
        · have z : b = i0 := by simpa using z
          subst z; obtain ⟨o, q, _⟩ := Sr.live hi; exact Heap.lt_size q
      have nT : b ≠ T := fun z => by subst z; exact absurd lt (Nat.not_lt.mpr hT)
      rw [upd_ne nT]
      exact (hf b hb).1
  done := fun X hP hw hK hc i pins s σ H E I hf st hg => by
    subst hP hw hK
    obtain ⟨⟨old, he⟩, hi, ne⟩ := st
    obtain ⟨xs, sq, hx⟩ := hg
    obtain ⟨its, rv, ris⟩ := Sr.items I sq
    have na : r.addr ≠ i0 := Sr.ne_it ris hi
    obtain ⟨f0, f1, f2, f3, f4, f5⟩ := hf i0 (by simp)
    have hl : its.length = i := by rw [← rv.length]; exact hx
    subst hl
    exact wpAny_pyNext_enum_endD (Sr.draws (A := X.A.in1) (I.ok.hd hc) r i0 na its) he ⟨hi, ris⟩ fun h' eb => ⟨rfl, I.turned (t' := s.toks) (fun b o hb q => eb b o hb q) f0 f1 f3 f4 f5⟩
  self := fun A i s Q E st h => by
    obtain ⟨⟨_, he⟩, _⟩ := st
    exact wpAny_pyIter_enum he h
def iEn (K : PySem.W.Frag) (ta : TA) : TI := fun σ H R => ta σ H fun vs H1 => ∃ (r : Sr) (xs : List V), vs = [.ref r.addr] ∧ r.sq K H1 xs ∧ R (ItE K r) H1
theorem pi_en {X : Cx} {e : Expr} {ta : TA} {p pos tpos : Pos} {elts : List Expr} {kk : Nat} (hg : Gl X "enumerate") (hm : X.mg "enumerate" = none) (ha : PA X [e] ta) (hs : starEach [e] X.env = [(false, eval e X.env)]) :
    PI X (.Tuple elts kk tpos) (.Call (.Name "enumerate" p) [e] [] pos) (iEn X.K ta) := ⟨fun pins s σ H R I h => by
  refine Call_ (ld_blt I hg hm boot_enumerate (PyProof.Rows.callWith_type1 (thn (ha.run pos pins s σ H _ I h) fun us s1 ⟨vs, H1, I1, r1, q1⟩ => ?_) hs rfl))
  obtain ⟨r, xs, rfl, sq, q⟩ := q1
  obtain rfl := Vals.ref1 r1
  obtain ⟨its, rv, ris⟩ := Sr.items I1 sq
  refine zd_enum (r.begins its) ris fun h' he hit hk => wpAny_pyIter_enum he ?_
  have I2 : Inv X pins σ H1 { s1 with heap := h' } := I1.kept (t' := s1.toks) hk
  refine ⟨s1.heap.objs.size + 1, [s1.heap.objs.size + 1, s1.heap.objs.size], _, _, H1, rfl, I2, turnE r (s1.heap.objs.size + 1) s1.heap.objs.size, ⟨⟨.none, he⟩, Sr.it0 hit, Nat.succ_ne_self _⟩, fun b hb => ?_, q⟩
  have hle : s1.heap.objs.size ≤ b := by
    rcases List.mem_cons.mp hb with z | z
    · rw [z]; exact Nat.le_succ _
    · have z : b = s1.heap.objs.size := by simpa using z
      rw [z]; exact Nat.le_refl _
  exact I1.fpOk hle (I1.hok.fresh hle)⟩
/-! zip -/
def ItZ (K : PySem.W.Frag) (r r' : Sr) : It :=
  ⟨fun i H => ∃ xs ys x y, r.sq K H xs ∧ r'.sq K H ys ∧ xs[i]? = some x ∧ ys[i]? = some y, fun i H v H' => ∃ T x y, v = .ref T ∧ H T = none ∧ H' = upd H T (.tup [x, y]) ∧ (∀ xs, r.sq K H xs → xs[i]? = some x) ∧ ∀ ys, r'.sq K H ys → ys[i]? = some y,
    fun i H => ∃ xs ys, r.sq K H xs ∧ r'.sq K H ys ∧ min xs.length ys.length = i⟩
theorem Sr.ne_cls {r : Sr} {h : Heap} {its : List Value} {b : Addr} {o : Obj} {n : String} (x : r.is h its) (e : h.get? b = some o) (c : o.cls = .type n) (n1 : n ≠ "list") (n2 : n ≠ "tuple") : b ≠ r.addr := fun z => by
  cases r with
  | l a =>
    obtain ⟨o', q, c', _⟩ := x
    have z : b = a := z
    subst z
    rw [e] at q
    cases q
    rw [c] at c'
    injection c' with c'
    exact n1 c'
  | t a =>
    obtain ⟨o', q, c', _⟩ := x
    have z : b = a := z
    subst z
    rw [e] at q
    cases q
    rw [c] at c'
    injection c' with c'
    exact n2 c'
theorem turnZ {P : Program} {w : World} {K : PySem.W.Frag} {elts : List Expr} {kk : Nat} {tpos : Pos} {r r' : Sr} {z TI TO i1 i2 : Addr} (S : ZipSep2 z TI TO i1 i2 [i1, r.addr] [i2, r'.addr]) :
    Turn P w K (.Tuple elts kk tpos) (ItZ K r r') [z, TI, TO, i1, i2] z (fun i h => IsZip h z TI TO .none ∧ IsTupOf2 h TI (.ref i1) (.ref i2) ∧ (∃ a1 a2, IsTupOf2 h TO a1 a2) ∧ r.it h i1 i ∧ r'.it h i2 i) where
  mem := List.mem_cons_self
  obj := fun i h st b hb => by
    obtain ⟨hz, hTI, ⟨a1, a2, hTO⟩, h1, h2⟩ := st
    simp only [List.mem_cons, List.not_mem_nil, or_false] at hb
    rcases hb with q | q | q | q | q <;> subst q
    · exact ⟨_, hz, fun v q => nomatch q⟩
    · exact ⟨_, hTI, fun v q => nomatch q⟩
    · exact ⟨_, hTO, fun v q => nomatch q⟩
    · exact Sr.live h1
    · exact Sr.live h2
  keep := fun i h h' st k => by
    obtain ⟨hz, hTI, ⟨a1, a2, hTO⟩, h1, h2⟩ := st
    exact ⟨k z (by simp) _ hz, k TI (by simp) _ hTI, ⟨a1, a2, k TO (by simp) _ hTO⟩, Sr.at h1 fun o q => k i1 (by simp) o q, Sr.at h2 fun o q => k i2 (by simp) o q⟩
  item := fun X hP hw hK hc i pins s σ H E I hf st hg => by
    subst hP hw hK
    obtain ⟨hz, hTI, hTO, h1, h2⟩ := st
    obtain ⟨xs, ys, x, y, sq, sq', hx, hy⟩ := hg
    obtain ⟨its, rv, ris⟩ := Sr.items I sq
    obtain ⟨its', rv', ris'⟩ := Sr.items I sq'
    obtain ⟨u, hu, ru⟩ := rv.get hx
    obtain ⟨u', hu', ru'⟩ := rv'.get hy
    have n1 : i < its.length := (List.getElem?_eq_some_iff.mp hu).1
    have n2 : i < its'.length := (List.getElem?_eq_some_iff.mp hu').1
    have D1 := Sr.draws (prog := X.prog) (w := X.w) (A := X.A.in1) (I.ok.hd hc) r i1 (Sr.ne_it ris h1) its
    have D2 := Sr.draws (prog := X.prog) (w := X.w) (A := X.A.in1) (I.ok.hd hc) r' i2 (Sr.ne_it ris' h2) its'
    have G := GoesN.zip2 (A := X.A) (elts := elts) (x1 := kk) (pos := tpos) S D1 D2
    refine G.goes i s _ E (by omega) ⟨hz, hTI, hTO, ⟨h1, ris⟩, ⟨h2, ris'⟩⟩ fun v h' tk hY st2 hk htk => ?_
    obtain ⟨T, x', y', rfl, hT, hx', hy', hTup⟩ := hY
    have ex : x' = u := by
      have hx' : its[i]? = some x' := hx'
      rw [hu] at hx'
      exact (Option.some.inj hx').symm
    have ey : y' = u' := by
      have hy' : its'[i]? = some y' := hy'
      rw [hu'] at hy'
      exact (Option.some.inj hy').symm
    subst ex ey
    have new : ObjOk X.prog X.w (upd H T (.tup [x, y])) h' T (.tup [x, y]) := ⟨by show 2 ≤ sizeLine; decide, [x', y'], .cons ru (.cons ru' .nil), hTup⟩
    have hf' : ∀ b ∈ [z, TO, i1, i2], FpOk X pins H b := fun b hb => hf b (by
      simp only [List.mem_cons, List.not_mem_nil, or_false] at hb ⊢
      rcases hb with q | q | q | q <;> simp [q])
    have I1 : Inv X pins σ (upd H T (.tup [x, y])) { s with heap := h', toks := tk } := I.turnedNew (ch := [z, TO, i1, i2]) hk hf' hT new
    obtain ⟨hz', hTI', hTO', ⟨h1', _⟩, ⟨h2', _⟩⟩ := st2
    refine ⟨.ref T, _, I1, rfl, ⟨T, x, y, rfl, I.hok.fresh hT, rfl, fun l hl => by rw [Sr.inj I hl sq]; exact hx, fun l hl => by rw [Sr.inj I hl sq']; exact hy⟩, ⟨hz', hTI', hTO', h1', h2'⟩, fun b hb => ?_⟩
    have lt : b < s.heap.objs.size := by
      obtain ⟨a1, a2, hTO⟩ := hTO
      obtain ⟨o1, q1, _⟩ := Sr.live h1
      obtain ⟨o2, q2, _⟩ := Sr.live h2
      have hb2 := hb
      simp only [List.mem_cons, List.not_mem_nil, or_false] at hb2
      rcases hb2 with q | q | q | q | q <;> subst q
      · exact Heap.lt_size hz
      · exact Heap.lt_size hTI
      · exact Heap.lt_size hTO
      · exact Heap.lt_size q1
      · exact Heap.lt_size q2
    have nT : b ≠ T := fun e => by subst e; exact absurd lt (Nat.not_lt.mpr hT)
    rw [upd_ne nT]
    exact (hf b hb).1
  done := fun X hP hw hK hc i pins s σ H E I hf st hg => by
    subst hP hw hK
    obtain ⟨hz, hTI, hTO, h1, h2⟩ := st
    obtain ⟨xs, ys, sq, sq', hl⟩ := hg
    obtain ⟨its, rv, ris⟩ := Sr.items I sq
    obtain ⟨its', rv', ris'⟩ := Sr.items I sq'
    have D1 := Sr.draws (prog := X.prog) (w := X.w) (A := X.A.in1) (I.ok.hd hc) r i1 (Sr.ne_it ris h1) its
    have D2 := Sr.draws (prog := X.prog) (w := X.w) (A := X.A.in1) (I.ok.hd hc) r' i2 (Sr.ne_it ris' h2) its'
    have G := GoesN.zip2 (A := X.A) (elts := elts) (x1 := kk) (pos := tpos) S D1 D2
    have el : i = min its.length its'.length := by rw [← rv.length, ← rv'.length]; exact hl.symm
    subst el
    have hf' : ∀ b ∈ [z, TO, i1, i2], FpOk X pins H b := fun b hb => hf b (by
      simp only [List.mem_cons, List.not_mem_nil, or_false] at hb ⊢
      rcases hb with q | q | q | q <;> simp [q])
    exact G.stops s _ E ⟨hz, hTI, hTO, ⟨h1, ris⟩, ⟨h2, ris'⟩⟩ fun h' tk hk htk => I.turnedL (t' := tk) (ch := [z, TO, i1, i2]) hk hf'
  self := fun A i s Q E st h => wpAny_pyIter_zip st.1 h
def iZp (K : PySem.W.Frag) (ta : TA) : TI := fun σ H R => ta σ H fun vs H1 => ∃ (r r' : Sr) (xs ys : List V), vs = [.ref r.addr, .ref r'.addr] ∧ r.sq K H1 xs ∧ r'.sq K H1 ys ∧ R (ItZ K r r') H1
theorem pi_zp {X : Cx} {e e2 : Expr} {ta : TA} {p pos tpos : Pos} {elts : List Expr} {kk : Nat} (hg : Gl X "zip") (hm : X.mg "zip" = none) (ha : PA X [e, e2] ta)
    (hs : starEach [e, e2] X.env = (false, eval e X.env) :: starEach [e2] X.env) (hpl : (backTo pos (starEach [e2] X.env)).any (·.1) = false) :
    PI X (.Tuple elts kk tpos) (.Call (.Name "zip" p) [e, e2] [] pos) (iZp X.K ta) := ⟨fun pins s σ H R I h => by
  refine Call_ (ld_blt I hg hm PyProof.Rows.boot_zip (PyProof.Rows.callWith_type1 (thn (ha.run pos pins s σ H _ I h) fun us s1 ⟨vs, H1, I1, r1, q1⟩ => ?_) hs hpl))
  obtain ⟨r, r', xs, ys, rfl, sq, sq', q⟩ := q1
  obtain ⟨u, u', rfl, e1, e2⟩ := Vals.two r1
  obtain rfl : u = .ref r.addr := e1
  obtain rfl : u' = .ref r'.addr := e2
  obtain ⟨its, rv, ris⟩ := Sr.items I1 sq
  obtain ⟨its', rv', ris'⟩ := Sr.items I1 sq'
  have fresh5 : ∀ c, c ∈ [s1.heap.objs.size + 4, s1.heap.objs.size + 2, s1.heap.objs.size + 3, s1.heap.objs.size, s1.heap.objs.size + 1] → FpOk X pins H1 c := fun c hb => by
    have hle : s1.heap.objs.size ≤ c := by
      simp only [List.mem_cons, List.not_mem_nil, or_false] at hb
      rcases hb with q | q | q | q | q <;> subst q
      · exact Nat.le_add_right _ _
      · exact Nat.le_add_right _ _
      · exact Nat.le_add_right _ _
      · exact Nat.le_refl _
      · exact Nat.le_add_right _ _
    exact I1.fpOk hle (I1.hok.fresh hle)
  refine zip_begins2 (r.begins its) (r'.begins its') ris ris' fun h' hz hTI hTO h1 h2 hsz hk => wpAny_pyIter_zip hz ?_
  have I2 : Inv X pins σ H1 { s1 with heap := h' } := I1.kept (t' := s1.toks) hk
  have S := zip_sep2 (N := s1.heap.objs.size) (fp1 := [r.addr]) (fp2 := [r'.addr]) (fun b hb => by
    have e : b = r.addr := by simpa using hb
    rw [e]; exact Sr.lt ris) (fun b hb => by
    have e : b = r'.addr := by simpa using hb
    rw [e]; exact Sr.lt ris')
  exact ⟨s1.heap.objs.size + 4, [s1.heap.objs.size + 4, s1.heap.objs.size + 2, s1.heap.objs.size + 3, s1.heap.objs.size, s1.heap.objs.size + 1], _, _, H1, rfl, I2, turnZ S, ⟨hz, hTI, ⟨_, _, hTO⟩, Sr.it0 h1, Sr.it0 h2⟩, fresh5, q⟩⟩
/-! ### by values -/
def srOk (x : PV) (M : Mp) : Prop := match x with
  | .ref p => (lget M p).isSome = true
  | _ => True
/-- the items, and what must still hold of a list -/
def srcOf (x : PV) (M : Mp) : Option ZSeq := match x with
  | .tup xs => some ⟨xs, fun _ => True⟩
  | .ref p => match lget M p with
    | some xs => some ⟨xs, fun M => lget M p = some xs⟩
    | none => none
  | _ => none
theorem src_of {K : PySem.W.Frag} {P H : Hp} {M : Mp} {x : PV} {v : V} {sq : ZSeq} (sm : SRm K P H M) (r : R K H x v) (h : srcOf x M = some sq) :
    ∃ (s : Sr) (xs : List V), v = .ref s.addr ∧ s.sq K H xs ∧ ∀ {P1 : Hp} (H1 : Hp) (M1 : Mp), Le H H1 → SRm K P1 H1 M1 → sq.ok M1 → ∃ ys, s.sq K H1 ys ∧ Rs K H1 sq.its ys := by
  cases x with
  | tup xs =>
    cases h
    obtain ⟨a, vs, rfl, sa, ra⟩ := r
    exact ⟨.t a, vs, rfl, sa, fun H1 M1 l _ _ => ⟨vs, SqT.mono l sa, Rs.mono l _ _ ra⟩⟩
  | ref p =>
    obtain rfl := R.of_ref r
    dsimp only [srcOf] at h
    cases e : lget M p with
    | none => rw [e] at h; cases h
    | some xs =>
      rw [e] at h
      cases h
      obtain ⟨vs, sa, _⟩ := sm.lget e
      exact ⟨.l p, vs, rfl, sa, fun H1 M1 l s1 ok => s1.lget ok⟩
  | _ => cases h
def enumL : Nat → List PV → List PV
  | _, [] => []
  | k, x :: r => .tup [.int (k : Nat), x] :: enumL (k + 1) r
theorem enumL_get : ∀ (xs : List PV) (k i : Nat) (y : PV), (enumL k xs)[i]? = some y → ∃ x, xs[i]? = some x ∧ y = .tup [.int ((k + i : Nat) : Int), x]
  | [], _, _, _, h => by simp [enumL] at h
  | x :: r, k, 0, y, h => by
    simp [enumL] at h
    exact ⟨x, rfl, h.symm⟩
  | x :: r, k, i + 1, y, h => by
    have h : (enumL (k + 1) r)[i]? = some y := by simpa [enumL] using h
    obtain ⟨x', h1, h2⟩ := enumL_get r (k + 1) i y h
    exact ⟨x', by simpa using h1, by rw [h2]; congr 4; omega⟩
theorem enumL_len : ∀ (xs : List PV) (k : Nat), (enumL k xs).length = xs.length
  | [], _ => rfl
  | x :: r, k => by rw [enumL, List.length_cons, List.length_cons, enumL_len r]
theorem seq_en {K : PySem.W.Frag} {H : Hp} {s : Sr} {sq : ZSeq} (h : ∀ {P1 : Hp} (H1 : Hp) (M1 : Mp), Le H H1 → SRm K P1 H1 M1 → sq.ok M1 → ∃ ys, s.sq K H1 ys ∧ Rs K H1 sq.its ys) : SeqOk K H (ItE K s) ⟨enumL 0 sq.its, sq.ok⟩ := fun i H1 M1 l sm ok => by
  obtain ⟨ys, sy, ry⟩ := h H1 M1 l sm ok
  refine ⟨fun y e => ?_, fun e => ⟨ys, sy, ?_⟩⟩
  · obtain ⟨x, h1, rfl⟩ := enumL_get _ _ _ _ e
    obtain ⟨v, g, rv⟩ := ry.get h1
    refine ⟨⟨ys, v, sy, g⟩, fun u H' q => ?_⟩
    obtain ⟨T, v', rfl, hT, rfl, q⟩ := q
    have e1 := q ys sy
    rw [g] at e1
    cases e1
    have rr : Rs K H1 [.int ((0 + i : Nat) : Int), x] [.int (i : Nat), v] := Rs.cons (by show V.int _ = V.int _; rw [Nat.zero_add]) (Rs.one rv)
    exact ⟨Le.new hT, sm.new_tup hT, R.tupNew rr hT⟩
  · have e : (enumL 0 sq.its).length = i := e
    rw [enumL_len] at e
    rw [ry.length]; exact e
def zipL : List PV → List PV → List PV
  | x :: r, y :: s => .tup [x, y] :: zipL r s
  | _, _ => []
theorem zipL_get : ∀ (xs ys : List PV) (i : Nat) (z : PV), (zipL xs ys)[i]? = some z → ∃ x y, xs[i]? = some x ∧ ys[i]? = some y ∧ z = .tup [x, y]
  | [], _, _, _, h => by simp [zipL] at h
  | _ :: _, [], _, _, h => by simp [zipL] at h
  | x :: r, y :: s, 0, z, h => by
    simp [zipL] at h
    exact ⟨x, y, rfl, rfl, h.symm⟩
  | x :: r, y :: s, i + 1, z, h => by
    have h : (zipL r s)[i]? = some z := by simpa [zipL] using h
    obtain ⟨a, b, h1, h2, h3⟩ := zipL_get r s i z h
    exact ⟨a, b, by simpa using h1, by simpa using h2, h3⟩
theorem zipL_len : ∀ (xs ys : List PV), (zipL xs ys).length = min xs.length ys.length
  | [], ys => by simp [zipL]
  | _ :: _, [] => by simp [zipL]
  | x :: r, y :: s => by rw [zipL, List.length_cons, List.length_cons, List.length_cons, zipL_len r s]; omega
theorem seq_zp {K : PySem.W.Frag} {H : Hp} {s t : Sr} {sq tq : ZSeq} (h : ∀ {P1 : Hp} (H1 : Hp) (M1 : Mp), Le H H1 → SRm K P1 H1 M1 → sq.ok M1 → ∃ ys, s.sq K H1 ys ∧ Rs K H1 sq.its ys)
    (h' : ∀ {P1 : Hp} (H1 : Hp) (M1 : Mp), Le H H1 → SRm K P1 H1 M1 → tq.ok M1 → ∃ ys, t.sq K H1 ys ∧ Rs K H1 tq.its ys) : SeqOk K H (ItZ K s t) ⟨zipL sq.its tq.its, fun M => sq.ok M ∧ tq.ok M⟩ := fun i H1 M1 l sm ok => by
  obtain ⟨ys, sy, ry⟩ := h H1 M1 l sm ok.1
  obtain ⟨zs, sz, rz⟩ := h' H1 M1 l sm ok.2
  refine ⟨fun y e => ?_, fun e => ⟨ys, zs, sy, sz, ?_⟩⟩
  · obtain ⟨a, b, h1, h2, rfl⟩ := zipL_get _ _ _ _ e
    obtain ⟨v, g, rv⟩ := ry.get h1
    obtain ⟨w, g', rw_⟩ := rz.get h2
    refine ⟨⟨ys, zs, v, w, sy, sz, g, g'⟩, fun u H' q => ?_⟩
    obtain ⟨T, v', w', rfl, hT, rfl, q, q'⟩ := q
    have e1 := q ys sy
    rw [g] at e1
    cases e1
    have e2 := q' zs sz
    rw [g'] at e2
    cases e2
    exact ⟨Le.new hT, sm.new_tup hT, R.tupNew (Rs.cons rv (Rs.one rw_)) hT⟩
  · have e : (zipL sq.its tq.its).length = i := e
    rw [zipL_len] at e
    rw [ry.length, rz.length]; exact e
def enumP (x : PV) (M : Mp) (Q : ZSeq → Mp → Prop) : Prop := match srcOf x M with
  | some sq => Q ⟨enumL 0 sq.its, sq.ok⟩ M
  | none => False
def zipP (x y : PV) (M : Mp) (Q : ZSeq → Mp → Prop) : Prop := match srcOf x M, srcOf y M with
  | some sq, some tq => Q ⟨zipL sq.its tq.its, fun M => sq.ok M ∧ tq.ok M⟩ M
  | _, _ => False
section
variable {X : Cx} {W : L2.WX} {a b : Expr} {wa wb : ZWe} {p pos tpos : Pos} {elts : List Expr} {kk : Nat}
theorem wi_enum (hg : Gl X "enumerate") (hm : X.mg "enumerate" = none) (ha : WE X W a wa) (hn : starEach [a] X.env = [(false, eval a X.env)]) :
    WI X W (.Tuple elts kk tpos) (.Call (.Name "enumerate" p) [a] [] pos) (fun E τ M Q => wa E τ M fun x M1 => enumP x M1 Q) := PI.imp (pi_en hg hm (wa_cons ha wa_nil hn) hn) fun σ H Q h => by
  obtain ⟨P, E, τ, M, Q', st, sm, hw, hc, hE⟩ := h
  refine ⟨P, E, τ, M, fun xs M1 => match xs with | [x] => enumP x M1 Q' | _ => False, st, sm, hw, fun vs H1 xs M1 l1 sm1 r1 h1 => ?_, hE⟩
  dsimp only at h1
  split at h1
  · obtain ⟨v, rfl, r⟩ := Rs.of1 r1
    rename_i x
    unfold enumP at h1
    cases e : srcOf x M1 with
    | none => rw [e] at h1; exact h1.elim
    | some sq =>
      rw [e] at h1
      obtain ⟨s, xs, rfl, sq', hh⟩ := src_of sm1 r e
      exact ⟨s, xs, rfl, sq', hc _ _ _ _ l1 sm1 (seq_en hh) h1⟩
  · exact h1.elim
theorem wi_zip (hg : Gl X "zip") (hm : X.mg "zip" = none) (ha : WE X W a wa) (hb : WE X W b wb) (hs : starEach [a, b] X.env = (false, eval a X.env) :: starEach [b] X.env) (hs2 : starEach [b] X.env = [(false, eval b X.env)]) (hpl : (backTo pos (starEach [b] X.env)).any (·.1) = false) :
    WI X W (.Tuple elts kk tpos) (.Call (.Name "zip" p) [a, b] [] pos) (fun E τ M Q => wa E τ M fun x M1 => wb E τ M1 fun y M2 => zipP x y M2 Q) := PI.imp (pi_zp hg hm (wa_cons ha (wa_cons hb wa_nil hs2) hs) hs hpl) fun σ H Q h => by
  obtain ⟨P, E, τ, M, Q', st, sm, hw, hc, hE⟩ := h
  refine ⟨P, E, τ, M, fun xs M1 => match xs with | [x, y] => zipP x y M1 Q' | _ => False, st, sm, hw, fun vs H1 xs M1 l1 sm1 r1 h1 => ?_, hE⟩
  dsimp only at h1
  split at h1
  · obtain ⟨v, u, rfl, r, r2⟩ := Rs.of2 r1
    rename_i x y
    unfold zipP at h1
    cases e : srcOf x M1 with
    | none => rw [e] at h1; exact h1.elim
    | some sq =>
      cases e2 : srcOf y M1 with
      | none => rw [e, e2] at h1; exact h1.elim
      | some tq =>
        rw [e, e2] at h1
        obtain ⟨s, xs, rfl, sq', hh⟩ := src_of sm1 r e
        obtain ⟨t, ys, rfl, tq', hh'⟩ := src_of sm1 r2 e2
        exact ⟨s, t, xs, ys, rfl, sq', tq', hc _ _ _ _ l1 sm1 (seq_zp hh hh') h1⟩
  · exact h1.elim
end
end Zd

set_option Elab.async false
set_option linter.all false
set_option maxRecDepth 100000
set_option maxHeartbeats 8000000
/-! Zd 15: dict comprehensions, d.get(k), d.get(k, x), list comprehensions of two fors. -/
namespace Zd
open PySem PySem.Spec PyProof.Rows L2

section
variable {K : PySem.W.Frag} {P H : Hp} {M : Mp} {D : Addr}
theorem SRm.unpinO {o : HO} {m : MO} (s : SRm K (upd P D o) H M) (hP : P D = none) (fm : isFree m = true) (new : H D = some o → MOk K H D m) : SRm K P H (mu M D m) := by
  obtain ⟨hH, hD⟩ := s.pin D _ upd_same
  refine ⟨fun a u e => ?_, fun a φ F e b hb => ?_, fun a u e => ?_⟩
  · by_cases ha : a = D
    · subst ha
      rw [mu_same] at e
      cases e
      exact new hH
    · rw [mu_ne ha] at e
      exact s.ok a u e
  · by_cases ha : a = D
    · subst ha
      rw [mu_same] at e
      cases e
      cases fm
    · rw [mu_ne ha] at e
      rcases s.own a φ F e b hb with z | z
      · exact .inl z
      · exact .inr (by rw [mu_ne fun y => by subst y; rw [hD] at z; cases z]; exact z)
  · have ha : a ≠ D := fun z => by subst z; rw [hP] at e; cases e
    obtain ⟨h1, h2⟩ := s.pin a u (by rw [upd_ne ha]; exact e)
    exact ⟨h1, by rw [mu_ne ha]; exact h2⟩
end
def dcP (ok : Mp → Prop) (f : PV → Mp → (Option (PV × PV) → Mp → Prop) → Prop) (fin : List (Key × PV) → Mp → Prop) : List PV → List (Key × PV) → Mp → Prop
  | [], acc, M => ok M ∧ fin acc M
  | x :: xs, acc, M => ok M ∧ f x M fun o M' => match o with
    | some (k, y) => acc.length < sizeLine ∧ ∃ q, keyOf k = some q ∧ ∃ M2, Fg M2 M' ∧ dcP ok f fin xs (putZ acc q y) M2
    | none => ∃ M2, Fg M2 M' ∧ dcP ok f fin xs acc M2
def dcF (τ : Tau) (wg : ZWg) (wt : ZWt) (wk wv : ZWe) : PV → Mp → (Option (PV × PV) → Mp → Prop) → Prop := fun x M k => wg x τ M fun τ2 M2 => wt E0x τ2 M2 fun b M3 => if b = true then wk E0x τ2 M3 fun y M4 => wv E0x τ2 M4 fun z M5 => k (some (y, z)) M5 else k none M3
def allocD (Q : ZQ) (acc : List (Key × PV)) (M : Mp) : Prop := ∀ p, M p = none → Q (.ref p) (mu M p (.dic acc))
def wDc (wi : ZWi) (wg : ZWg) (wt : ZWt) (wk wv : ZWe) (vs : List Nat) : ZWe := fun E τ M Q => wi E τ M fun sq M1 => dcP sq.ok (dcF (wipeT τ vs) wg wt wk wv) (allocD Q) sq.its [] M1
section
variable {X : Cx} {W : L2.WX} {tg iter elt kx vx : Expr} {wi : ZWi} {wg : ZWg} {wt : ZWt} {we wk wv : ZWe} {vs : List Nat}
theorem lift_dc {σ : L2.St} {H : Hp} {Q : VK} (h : lift X.K X.mg W (wDc wi wg wt wk wv vs) σ H Q) : tDc (liftI X.K X.mg W wi) (liftV X.K vs wg) (liftT X.K X.mg W0 wt) (lift X.K X.mg W0 wk) (lift X.K X.mg W0 wv) vs σ H Q := by
  obtain ⟨P, E, τ, M, Q', st, sm, hw, hc, hE⟩ := h
  refine ⟨P, E, τ, M, _, st, sm, hw, fun J H1 sq M1 l1 sm1 so h1 => ?_, hE⟩
  intro D hD
  have hP : P D = none := sm1.notpin hD
  refine ⟨fun i m H' => ∃ acc vacc M', m + i = sq.its.length ∧ Le H1 H' ∧ SRm X.K (upd P D (.dK vacc)) H' M' ∧ Paired (KR X.K H') acc vacc ∧ dcP sq.ok (dcF (wipeT τ vs) wg wt wk wv) (allocD Q') (sq.its.drop i) acc M',
    ⟨sq.its.length, [], [], M1, rfl, Le.new hD, sm1.pinnew hD, .nil, h1⟩, fun i m H' hW => ?_⟩
  obtain ⟨acc, vacc, M', em, l2, sm2, ra, h2⟩ := hW
  cases ed : sq.its.drop i with
  | nil =>
    rw [ed] at h2
    have hl : sq.its.length ≤ i := List.drop_eq_nil_iff.mp ed
    refine .inl ⟨(so i H' M' l2 sm2 h2.1).2 (by omega), ?_⟩
    exact hc _ _ (.ref D) _ (l1.trans l2) (sm2.unpinO hP (m := .dic acc) rfl fun e => ⟨vacc, e, ra⟩) rfl (h2.2 D (sm2.pin D _ upd_same).2)
  | cons x xs =>
    rw [ed] at h2
    have hi : sq.its[i]? = some x := by
      have : (sq.its.drop i)[0]? = some x := by rw [ed]; rfl
      rw [List.getElem?_drop] at this
      exact this
    have ht : sq.its.drop (i + 1) = xs := by
      rw [← List.drop_drop, ed]
      rfl
    have hil : i < sq.its.length := (List.getElem?_eq_some_iff.mp hi).1
    obtain ⟨hgo, hy⟩ := (so i H' M' l2 sm2 h2.1).1 x hi
    refine .inr ⟨hgo, fun H3 => ∃ acc vacc M3, Le H1 H3 ∧ SRm X.K (upd P D (.dK vacc)) H3 M3 ∧ Paired (KR X.K H3) acc vacc ∧ dcP sq.ok (dcF (wipeT τ vs) wg wt wk wv) (allocD Q') xs acc M3, fun H3 hN => ?_, fun v H3 yl => ?_⟩
    · obtain ⟨acc3, vacc3, M3, l3, sm3, r3, h3⟩ := hN
      exact ⟨m - 1, by omega, acc3, vacc3, M3, by omega, l3, sm3, r3, by rw [ht]; exact h3⟩
    · obtain ⟨l3, sm3, r3⟩ := hy v H3 yl
      have l03 : Le H H3 := (l1.trans l2).trans l3
      refine ⟨_, x, wipeT τ vs, M', _, r3, (st.mono l03).wipe vs, sm3, h2.2, fun σ4 H4 τ4 M4 l4 so4 st4 sm4 h4 => ?_⟩
      refine ⟨so4.wipe_eq, _, E0x, τ4, M4, _, st4, sm4, h4, fun b H5 M5 l5 sm5 h5 => ?_, exl0⟩
      have l35 : Le H3 H5 := l4.trans l5
      have l25 : Le H' H5 := l3.trans l35
      cases b with
      | true =>
        dsimp only at h5 ⊢
        rw [if_pos rfl] at h5 ⊢
        refine ⟨_, E0x, τ4, M5, _, st4.mono l5, sm5, h5, fun y H6 py M6 l6 sm6 r6 h6 => ?_, exl0⟩
        refine ⟨_, E0x, τ4, M6, _, (st4.mono l5).mono l6, sm6, h6, fun z H7 pz M7 l7 sm7 r7 h7 => ?_, exl0⟩
        obtain ⟨hl7, q, hq, M8, fg, h7⟩ := h7
        have hD7 := (sm7.pin D _ upd_same).1
        have l8 : Le H7 (upd H7 D (.dK (putK vacc q z))) := Le.dK hD7
        refine ⟨vacc, q, keyOf_R (R.mono l7 _ _ r6) hq, hD7, by rw [kr_len ra]; exact hl7, putZ acc q pz, putK vacc q z, M8, (((l2.trans l25).trans l6).trans l7).trans l8, (sm7.pinset l8).fg fg, ?_, h7⟩
        exact kr_put (R.mono l8 _ _ r7) (kr_mono (((l25.trans l6).trans l7).trans l8) ra)
      | false =>
        dsimp only at h5 ⊢
        rw [if_neg (by decide)] at h5 ⊢
        obtain ⟨M8, fg, h5⟩ := h5
        exact ⟨acc, vacc, M8, l2.trans l25, sm5.fg fg, kr_mono l25 ra, h5⟩
theorem we_dc {ifs : List Expr} {scope : Scope} {own : List (Str × Nat)} {pos : Pos} (hc : X.calm = true) (hN : X.N.Nodup) (hi : WI X W tg iter wi) (ok : BlkOk X.N X.env.scope scope own)
    (hg : ∀ (s : Shared) (H : Hp) (C : Addr) (cl : List (Str × Addr)) (fp : List Addr), PG (X.blk s H scope (compEnvC scope cl C X.env) fp) tg (liftV X.K (own.map (·.2)) wg))
    (ht : ∀ (s : Shared) (H : Hp) (C : Addr) (cl : List (Str × Addr)) (fp : List Addr), PTs (X.blk s H scope (compEnvC scope cl C X.env) fp) ifs (liftT X.K X.mg W0 wt))
    (hk : ∀ (s : Shared) (H : Hp) (C : Addr) (cl : List (Str × Addr)) (fp : List Addr), PE (X.blk s H scope (compEnvC scope cl C X.env) fp) kx (lift X.K X.mg W0 wk))
    (he : ∀ (s : Shared) (H : Hp) (C : Addr) (cl : List (Str × Addr)) (fp : List Addr), PE (X.blk s H scope (compEnvC scope cl C X.env) fp) vx (lift X.K X.mg W0 wv)) (hs : ∀ x, foldedSetIterable iter X.env x = pure x) :
    WE X W (.DictComp kx vx [⟨tg, iter, ifs, 0⟩] scope pos) (wDc wi wg wt wk wv (own.map (·.2))) := PE.imp (pe_dc hc hN hi ok hg ht hk he hs) fun σ H Q h => lift_dc h
end
end Zd

set_option Elab.async false
set_option linter.all false
set_option maxRecDepth 100000
set_option maxHeartbeats 8000000
/-! Zd 16: y = {..} on one line; d.get(k, x); [.. for .. for ..]. -/
namespace Zd
open PySem PySem.Spec PyProof.Rows L2
open AutoSeq1

section
variable {X : Cx} {W : L2.WX}
theorem ps_setDc {i : Nat} {y : Str} {py : Pos} {kx vx tg iter : Expr} {ifs : List Expr} {scope : Scope} {own : List (Str × Nat)} {pos spos : Pos} {wi : TI} {g : TG} {tt : TT} {tk tv : TE} (hcalm : X.calm = true) (hnd : X.N.Nodup) (hat : X.N[i]? = some y)
    (hloc : X.env.scope.names.lookup y = some .local) (hsw : swapsWith (.DictComp kx vx [⟨tg, iter, ifs, 0⟩] scope pos) (some (.Name y py)) spos.line X.env = pure true) (hi : PI X tg iter wi) (hown : BlkOk X.N X.env.scope scope own)
    (h1 : ∀ (s : Shared) (H : Hp) (C : Addr) (cl : List (Str × Addr)) (fp : List Addr), PG (X.blk s H scope (compEnvC scope cl C X.env) fp) tg g)
    (h2 : ∀ (s : Shared) (H : Hp) (C : Addr) (cl : List (Str × Addr)) (fp : List Addr), PTs (X.blk s H scope (compEnvC scope cl C X.env) fp) ifs tt)
    (h3 : ∀ (s : Shared) (H : Hp) (C : Addr) (cl : List (Str × Addr)) (fp : List Addr), PE (X.blk s H scope (compEnvC scope cl C X.env) fp) kx tk)
    (h4 : ∀ (s : Shared) (H : Hp) (C : Addr) (cl : List (Str × Addr)) (fp : List Addr), PE (X.blk s H scope (compEnvC scope cl C X.env) fp) vx tv) (hset : ∀ x, foldedSetIterable iter X.env x = pure x) :
    PS X (.Assign [.Name y py] (.DictComp kx vx [⟨tg, iter, ifs, 0⟩] scope pos) spos) (tAsg (tDc wi g tt tk tv (own.map (·.2))) (gName i)) := by
  constructor
  intro pins s σ H D inv q
  rw [exec_Assign_Name_used _ _ _ _ hsw]
  apply wpAny_bind; apply wpAny_standAt; apply wpAny_bind
  change wpAny _ X.A (do let _ ← comprehension (.DictComp kx vx [⟨tg, iter, ifs, 0⟩] scope pos) scope X.env (firstIterPos [⟨tg, iter, ifs, 0⟩] pos) newDict false (eval iter X.env) (some (assign (.Name y py) X.env))) _ _ s
  have q' : tDc wi g tt tk tv (own.map (·.2)) σ H (fun z H1 => gName i z σ H1 D.nx) := q
  apply wpAny_bind
  refine thn (dc_core (Qf := fun _ s' => SP X pins D .next s') hcalm hnd inv hi hown h1 h2 h3 h4 hset q' fun L C s' m H' inv' r ns fpk => ?_) fun _ s' done => wpAny_pure (wpAny_pure done)
  change wpAny _ _ (assign (.Name y py) X.env (.ref L)) _ _ _
  apply wpAny_assign_Name
  refine store_ok2 (v := V.ref L) inv' hnd hat (.inl hloc) rfl (fun s2 inv2 hex => ?_) (.inr hloc)
  obtain ⟨a, same, where_⟩ := hex
  obtain ⟨g0, g1, g2, g3, g4, g5⟩ := fpk
  have cne : C ≠ a := by
    cases where_ with
    | inl z => rw [z]; exact g1
    | inr z => intro e; exact g4 y a z e.symm
  refine ⟨m, ns.sameBut same cne, fun h'' same' => ?_⟩
  have back := inv2.turned (t' := s2.toks) (fun b o hb e => (same'.2 b hb).trans e) g0 g1 g3 g4 g5
  exact ⟨_, H', back, r⟩
theorem ws_setDc {i : Nat} {y : Str} {py : Pos} {kx vx tg iter : Expr} {ifs : List Expr} {scope : Scope} {own : List (Str × Nat)} {pos spos : Pos} {wi : ZWi} {wg : ZWg} {wt : ZWt} {wk wv : ZWe} (hc : X.calm = true) (hN : X.N.Nodup) (hy : X.N[i]? = some y) (hyl : X.env.scope.names.lookup y = some .local)
    (hsw : swapsWith (.DictComp kx vx [⟨tg, iter, ifs, 0⟩] scope pos) (some (.Name y py)) spos.line X.env = pure true) (hi : WI X W tg iter wi) (ok : BlkOk X.N X.env.scope scope own)
    (hg : ∀ (s : Shared) (H : Hp) (C : Addr) (cl : List (Str × Addr)) (fp : List Addr), PG (X.blk s H scope (compEnvC scope cl C X.env) fp) tg (liftV X.K (own.map (·.2)) wg))
    (ht : ∀ (s : Shared) (H : Hp) (C : Addr) (cl : List (Str × Addr)) (fp : List Addr), PTs (X.blk s H scope (compEnvC scope cl C X.env) fp) ifs (liftT X.K X.mg W0 wt))
    (hk : ∀ (s : Shared) (H : Hp) (C : Addr) (cl : List (Str × Addr)) (fp : List Addr), PE (X.blk s H scope (compEnvC scope cl C X.env) fp) kx (lift X.K X.mg W0 wk))
    (he : ∀ (s : Shared) (H : Hp) (C : Addr) (cl : List (Str × Addr)) (fp : List Addr), PE (X.blk s H scope (compEnvC scope cl C X.env) fp) vx (lift X.K X.mg W0 wv)) (hs : ∀ x, foldedSetIterable iter X.env x = pure x) :
    WS X W (.Assign [.Name y py] (.DictComp kx vx [⟨tg, iter, ifs, 0⟩] scope pos) spos) (wAsg (wDc wi wg wt wk wv (own.map (·.2))) (wgName i)) :=
  PS.imp (ps_setDc hc hN hy hyl hsw hi ok hg ht hk he hs) fun D σ H h => lift_asg (we := wDc wi wg wt wk wv (own.map (·.2))) (fun _ _ _ h => lift_dc h) (fun v σ H Q h => by
    obtain ⟨P, x, τ, M, Q', r, st, sm, hw, hk⟩ := h
    exact hk _ _ _ _ Le.refl (st.set r) sm hw) h
end
/-! d.get(k), d.get(k, x) -/
def dgetP (d k : PV) (M : Mp) (Q : Option PV → Prop) : Prop := match dicOf d M with
  | some kvs => ∃ q, keyOf k = some q ∧ Q (valZ kvs q)
  | none => False
/-! two fors -/
def lc2P (ok : Mp → Prop) (f : PV → List PV → Mp → (List PV → Mp → Prop) → Prop) (fin : List PV → Mp → Prop) : List PV → List PV → Mp → Prop
  | [], acc, M => ok M ∧ fin acc M
  | x :: xs, acc, M => ok M ∧ f x acc M fun acc' M' => ∃ M2, Fg M2 M' ∧ lc2P ok f fin xs acc' M2
def lc2F (τ : Tau) (wg : ZWg) (wt : ZWt) (wi1 : ZWi) (wg1 : ZWg) (wt1 : ZWt) (we : ZWe) (vs1 : List Nat) : PV → List PV → Mp → (List PV → Mp → Prop) → Prop := fun x acc M k =>
  wg x τ M fun τ2 M2 => wt E0x τ2 M2 fun b M3 => if b = true then wi1 E0x τ2 M3 fun sq M4 => lcP sq.ok (lcF (wipeT τ2 vs1) wg1 wt1 we) k sq.its acc M4 else k acc M3
def wLc2 (wi : ZWi) (wg : ZWg) (wt : ZWt) (wi1 : ZWi) (wg1 : ZWg) (wt1 : ZWt) (we : ZWe) (vs vs1 : List Nat) : ZWe := fun E τ M Q => wi E τ M fun sq M1 => lc2P sq.ok (lc2F (wipeT τ vs) wg wt wi1 wg1 wt1 we vs1) (allocL Q) sq.its [] M1
section
variable {X : Cx} {W : L2.WX} {tg iter tg1 iter1 elt : Expr} {wi wi1 : ZWi} {wg wg1 : ZWg} {wt wt1 : ZWt} {we : ZWe} {vs vs1 : List Nat}
theorem lift_lc2 {σ : L2.St} {H : Hp} {Q : VK} (h : lift X.K X.mg W (wLc2 wi wg wt wi1 wg1 wt1 we vs vs1) σ H Q) :
    tLc2 (liftI X.K X.mg W wi) (liftV X.K vs wg) (liftT X.K X.mg W0 wt) (liftI X.K X.mg W0 wi1) (liftV X.K vs1 wg1) (liftT X.K X.mg W0 wt1) (lift X.K X.mg W0 we) vs vs1 σ H Q := by
  obtain ⟨P, E, τ, M, Q', st, sm, hw, hc, hE⟩ := h
  refine ⟨P, E, τ, M, _, st, sm, hw, fun J H1 sq M1 l1 sm1 so h1 => ?_, hE⟩
  intro D hD
  have hP : P D = none := sm1.notpin hD
  let F := lc2F (wipeT τ vs) wg wt wi1 wg1 wt1 we vs1
  refine ⟨fun i m H' => ∃ acc vacc M', m + i = sq.its.length ∧ Le H1 H' ∧ SRm X.K (upd P D (.lst vacc)) H' M' ∧ Rs X.K H' acc vacc ∧ lc2P sq.ok F (allocL Q') (sq.its.drop i) acc M',
    ⟨sq.its.length, [], [], M1, rfl, Le.new hD, sm1.pinnew hD, rfl, h1⟩, fun i m H' hW => ?_⟩
  obtain ⟨acc, vacc, M', em, l2, sm2, ra, h2⟩ := hW
  cases ed : sq.its.drop i with
  | nil =>
    rw [ed] at h2
    have hl : sq.its.length ≤ i := List.drop_eq_nil_iff.mp ed
    refine .inl ⟨(so i H' M' l2 sm2 h2.1).2 (by omega), ?_⟩
    exact hc _ _ (.ref D) _ (l1.trans l2) (sm2.unpin hP ra) rfl (h2.2 D (sm2.pin D _ upd_same).2)
  | cons x xs =>
    rw [ed] at h2
    have hi : sq.its[i]? = some x := by
      have : (sq.its.drop i)[0]? = some x := by rw [ed]; rfl
      rw [List.getElem?_drop] at this
      exact this
    have ht : sq.its.drop (i + 1) = xs := by
      rw [← List.drop_drop, ed]
      rfl
    have hil : i < sq.its.length := (List.getElem?_eq_some_iff.mp hi).1
    obtain ⟨hgo, hy⟩ := (so i H' M' l2 sm2 h2.1).1 x hi
    refine .inr ⟨hgo, fun H3 => ∃ acc vacc M3, Le H1 H3 ∧ SRm X.K (upd P D (.lst vacc)) H3 M3 ∧ Rs X.K H3 acc vacc ∧ lc2P sq.ok F (allocL Q') xs acc M3, fun H3 hN => ?_, fun v H3 yl => ?_⟩
    · obtain ⟨acc3, vacc3, M3, l3, sm3, r3, h3⟩ := hN
      exact ⟨m - 1, by omega, acc3, vacc3, M3, by omega, l3, sm3, r3, by rw [ht]; exact h3⟩
    · obtain ⟨l3, sm3, r3⟩ := hy v H3 yl
      have l03 : Le H H3 := (l1.trans l2).trans l3
      refine ⟨_, x, wipeT τ vs, M', _, r3, (st.mono l03).wipe vs, sm3, h2.2, fun σ4 H4 τ4 M4 l4 so4 st4 sm4 h4 => ?_⟩
      refine ⟨so4.wipe_eq, _, E0x, τ4, M4, _, st4, sm4, h4, fun b H5 M5 l5 sm5 h5 => ?_, exl0⟩
      have l35 : Le H3 H5 := l4.trans l5
      have l25 : Le H' H5 := l3.trans l35
      cases b with
      | false =>
        dsimp only at h5 ⊢
        rw [if_neg (by decide)] at h5 ⊢
        obtain ⟨M8, fg, h5⟩ := h5
        exact ⟨acc, vacc, M8, l2.trans l25, sm5.fg fg, Rs.mono l25 _ _ ra, h5⟩
      | true =>
        dsimp only at h5 ⊢
        rw [if_pos rfl] at h5 ⊢
        refine ⟨_, E0x, τ4, M5, _, st4.mono l5, sm5, h5, fun J1 H6 sq1 M6 l6 sm6 so6 h6 => ?_, exl0⟩
        have l26 : Le H' H6 := l25.trans l6
        have st6 := (st4.mono l5).mono l6
        refine ⟨fun j k H7 => ∃ acc vacc M7, k + j = sq1.its.length ∧ Le H6 H7 ∧ SRm X.K (upd P D (.lst vacc)) H7 M7 ∧ Rs X.K H7 acc vacc ∧ lcP sq1.ok (lcF (wipeT τ4 vs1) wg1 wt1 we) (fun acc' M' => ∃ M2, Fg M2 M' ∧ lc2P sq.ok F (allocL Q') xs acc' M2) (sq1.its.drop j) acc M7,
          ⟨sq1.its.length, acc, vacc, M6, rfl, Le.refl, sm6, Rs.mono l26 _ _ ra, h6⟩, fun j k H7 hW1 => ?_⟩
        obtain ⟨acc7, vacc7, M7, em7, l7, sm7, ra7, h7⟩ := hW1
        cases ed1 : sq1.its.drop j with
        | nil =>
          rw [ed1] at h7
          have hl : sq1.its.length ≤ j := List.drop_eq_nil_iff.mp ed1
          obtain ⟨h7a, M8, fg, h7⟩ := h7
          exact .inl ⟨(so6 j H7 M7 l7 sm7 h7a).2 (by omega), acc7, vacc7, M8, (l2.trans l26).trans l7, sm7.fg fg, ra7, h7⟩
        | cons x1 xs1 =>
          rw [ed1] at h7
          have hi1 : sq1.its[j]? = some x1 := by
            have : (sq1.its.drop j)[0]? = some x1 := by rw [ed1]; rfl
            rw [List.getElem?_drop] at this
            exact this
          have ht1 : sq1.its.drop (j + 1) = xs1 := by
            rw [← List.drop_drop, ed1]
            rfl
          have hil1 : j < sq1.its.length := (List.getElem?_eq_some_iff.mp hi1).1
          obtain ⟨hgo1, hy1⟩ := (so6 j H7 M7 l7 sm7 h7.1).1 x1 hi1
          refine .inr ⟨hgo1, fun H8 => ∃ acc vacc M8, Le H6 H8 ∧ SRm X.K (upd P D (.lst vacc)) H8 M8 ∧ Rs X.K H8 acc vacc ∧ lcP sq1.ok (lcF (wipeT τ4 vs1) wg1 wt1 we) (fun acc' M' => ∃ M2, Fg M2 M' ∧ lc2P sq.ok F (allocL Q') xs acc' M2) xs1 acc M8, fun H8 hN => ?_, fun v1 H8 yl1 => ?_⟩
          · obtain ⟨acc3, vacc3, M3, l3, sm3, r3, h3⟩ := hN
            exact ⟨k - 1, by omega, acc3, vacc3, M3, by omega, l3, sm3, r3, by rw [ht1]; exact h3⟩
          · obtain ⟨l8, sm8, r8⟩ := hy1 v1 H8 yl1
            refine ⟨_, x1, wipeT τ4 vs1, M7, _, r8, (st6.mono (l7.trans l8)).wipe vs1, sm8, h7.2, fun σ9 H9 τ9 M9 l9 so9 st9 sm9 h9 => ?_⟩
            refine ⟨so9.wipe_eq, _, E0x, τ9, M9, _, st9, sm9, h9, fun b H10 M10 l10 sm10 h10 => ?_, exl0⟩
            have l810 : Le H8 H10 := l9.trans l10
            have l710 : Le H7 H10 := l8.trans l810
            cases b with
            | true =>
              dsimp only at h10 ⊢
              rw [if_pos rfl] at h10 ⊢
              refine ⟨_, E0x, τ9, M10, _, st9.mono l10, sm10, h10, fun y H11 py M11 l11 sm11 r11 h11 => ?_, exl0⟩
              have hD11 := (sm11.pin D _ upd_same).1
              have l12 : Le H11 (upd H11 D (.lst (vacc7 ++ [y]))) := Le.lst hD11
              obtain ⟨h11a, M12, fg, h11⟩ := h11
              refine ⟨vacc7, hD11, by rw [ra7.length]; exact h11a, acc7 ++ [py], vacc7 ++ [y], M12, ((l7.trans l710).trans l11).trans l12, (sm11.pinset l12).fg fg, ?_, h11⟩
              exact Rs.append (Rs.mono ((l710.trans l11).trans l12) _ _ ra7) (Rs.one (R.mono l12 _ _ r11))
            | false =>
              dsimp only at h10 ⊢
              rw [if_neg (by decide)] at h10 ⊢
              obtain ⟨M12, fg, h10⟩ := h10
              exact ⟨acc7, vacc7, M12, l7.trans l710, sm10.fg fg, Rs.mono l710 _ _ ra7, h10⟩
theorem we_lc2 {ifs ifs1 : List Expr} {scope : Scope} {own : List (Str × Nat)} {pos : Pos} (hc : X.calm = true) (hN : X.N.Nodup) (hi : WI X W tg iter wi) (ok : BlkOk X.N X.env.scope scope own) (hv : ∀ i ∈ vs1, i ∈ own.map (·.2))
    (hg : ∀ (s : Shared) (H : Hp) (C : Addr) (cl : List (Str × Addr)) (fp : List Addr), PG (X.blk s H scope (compEnvC scope cl C X.env) fp) tg (liftV X.K (own.map (·.2)) wg))
    (ht : ∀ (s : Shared) (H : Hp) (C : Addr) (cl : List (Str × Addr)) (fp : List Addr), PTs (X.blk s H scope (compEnvC scope cl C X.env) fp) ifs (liftT X.K X.mg W0 wt))
    (hi1 : ∀ (s : Shared) (H : Hp) (C : Addr) (cl : List (Str × Addr)) (fp : List Addr), WI (X.blk s H scope (compEnvC scope cl C X.env) fp) W0 tg1 iter1 wi1)
    (hg1 : ∀ (s : Shared) (H : Hp) (C : Addr) (cl : List (Str × Addr)) (fp : List Addr), PG (X.blk s H scope (compEnvC scope cl C X.env) fp) tg1 (liftV X.K vs1 wg1))
    (ht1 : ∀ (s : Shared) (H : Hp) (C : Addr) (cl : List (Str × Addr)) (fp : List Addr), PTs (X.blk s H scope (compEnvC scope cl C X.env) fp) ifs1 (liftT X.K X.mg W0 wt1))
    (he : ∀ (s : Shared) (H : Hp) (C : Addr) (cl : List (Str × Addr)) (fp : List Addr), PE (X.blk s H scope (compEnvC scope cl C X.env) fp) elt (lift X.K X.mg W0 we)) (hs : ∀ x, foldedSetIterable iter X.env x = pure x) (hs1 : ∀ env x, foldedSetIterable iter1 env x = pure x) :
    WE X W (.ListComp elt [⟨tg, iter, ifs, 0⟩, ⟨tg1, iter1, ifs1, 0⟩] scope pos) (wLc2 wi wg wt wi1 wg1 wt1 we (own.map (·.2)) vs1) := PE.imp (pe_lc2 hc hN hi ok hv hg ht hi1 hg1 ht1 he hs hs1) fun σ H Q h => lift_lc2 h
theorem ws_setLc2 {i : Nat} {y : Str} {py : Pos} {ifs ifs1 : List Expr} {scope : Scope} {own : List (Str × Nat)} {pos spos : Pos} (hc : X.calm = true) (hN : X.N.Nodup) (hy : X.N[i]? = some y) (hyl : X.env.scope.names.lookup y = some .local)
    (hsw : swapsWith (.ListComp elt [⟨tg, iter, ifs, 0⟩, ⟨tg1, iter1, ifs1, 0⟩] scope pos) (some (.Name y py)) spos.line X.env = pure true) (hi : WI X W tg iter wi) (ok : BlkOk X.N X.env.scope scope own) (hv : ∀ i ∈ vs1, i ∈ own.map (·.2))
    (hg : ∀ (s : Shared) (H : Hp) (C : Addr) (cl : List (Str × Addr)) (fp : List Addr), PG (X.blk s H scope (compEnvC scope cl C X.env) fp) tg (liftV X.K (own.map (·.2)) wg))
    (ht : ∀ (s : Shared) (H : Hp) (C : Addr) (cl : List (Str × Addr)) (fp : List Addr), PTs (X.blk s H scope (compEnvC scope cl C X.env) fp) ifs (liftT X.K X.mg W0 wt))
    (hi1 : ∀ (s : Shared) (H : Hp) (C : Addr) (cl : List (Str × Addr)) (fp : List Addr), WI (X.blk s H scope (compEnvC scope cl C X.env) fp) W0 tg1 iter1 wi1)
    (hg1 : ∀ (s : Shared) (H : Hp) (C : Addr) (cl : List (Str × Addr)) (fp : List Addr), PG (X.blk s H scope (compEnvC scope cl C X.env) fp) tg1 (liftV X.K vs1 wg1))
    (ht1 : ∀ (s : Shared) (H : Hp) (C : Addr) (cl : List (Str × Addr)) (fp : List Addr), PTs (X.blk s H scope (compEnvC scope cl C X.env) fp) ifs1 (liftT X.K X.mg W0 wt1))
    (he : ∀ (s : Shared) (H : Hp) (C : Addr) (cl : List (Str × Addr)) (fp : List Addr), PE (X.blk s H scope (compEnvC scope cl C X.env) fp) elt (lift X.K X.mg W0 we)) (hs : ∀ x, foldedSetIterable iter X.env x = pure x) (hs1 : ∀ env x, foldedSetIterable iter1 env x = pure x) :
    WS X W (.Assign [.Name y py] (.ListComp elt [⟨tg, iter, ifs, 0⟩, ⟨tg1, iter1, ifs1, 0⟩] scope pos) spos) (wAsg (wLc2 wi wg wt wi1 wg1 wt1 we (own.map (·.2)) vs1) (wgName i)) :=
  PS.imp (ps_setLc2 hc hN hy hyl hsw hi ok hv hg ht hi1 hg1 ht1 he hs hs1) fun D σ H h => lift_asg (we := wLc2 wi wg wt wi1 wg1 wt1 we (own.map (·.2)) vs1) (fun _ _ _ h => lift_lc2 h) (fun v σ H Q h => by
    obtain ⟨P, x, τ, M, Q', r, st, sm, hw, hk⟩ := h
    exact hk _ _ _ _ Le.refl (st.set r) sm hw) h
end
/-! f-strings -/
def fmtP (x : PV) (M : Mp) (Q : ZQ) : Prop := match x with
  | .str y => y.length ≤ sizeLine ∧ Q (.str y) M
  | .int i => i.natAbs.log2 < 1920 ∧ Q (.str (toString i)) M
  | _ => False
def strO (x : PV) (Q : Str → Prop) : Prop := match x with
  | .str y => Q y
  | _ => False
section
variable {X : Cx} {W : L2.WX} {e : Expr} {we : ZWe} {pos : Pos}
theorem we_fmt (h : WE X W e we) : WE X W (.FormattedValue e (-1) none pos) (fun E τ M Q => we E τ M fun x M1 => fmtP x M1 Q) := PE.imp (pe_fmt h) fun σ H Q h => by
  obtain ⟨P, E, τ, M, Q', st, sm, hw, hc, hE⟩ := h
  refine ⟨P, E, τ, M, _, st, sm, hw, fun v H1 x M1 l1 sm1 r1 h1 => ?_, hE⟩
  cases x with
  | str y => exact .inl ⟨y, r1, h1.1, hc _ _ (.str y) _ l1 sm1 rfl h1.2⟩
  | int i => exact .inr ⟨i, r1, h1.1, hc _ _ (.str (toString i)) _ l1 sm1 rfl h1.2⟩
  | _ => exact h1.elim
/-- parts, one behind the other -/
abbrev ZWj := Str → ZX → Tau → Mp → (Str → Mp → Prop) → Prop
def JsOk (X : Cx) (W : L2.WX) (es : List Expr) (w : ZWj) : Prop := ∃ ts, PJ X es ts ∧ ∀ acc σ H Q,
  (∃ P E τ M Q', SRt X.K σ H τ ∧ SRm X.K P H M ∧ w acc E τ M Q' ∧ (∀ y H' M', Le H H' → SRm X.K P H' M' → Q' y M' → Q y H') ∧ Exl X.K P X.mg W σ H E) → tJs ts acc σ H Q
theorem js_nil : JsOk X W [] (fun acc _ _ M Q => Q acc M) := ⟨[], .nil, fun acc σ H Q ⟨P, E, τ, M, Q', st, sm, hw, hc, hE⟩ => hc acc H M Le.refl sm hw⟩
theorem js_cons {es : List Expr} {w : ZWj} (h : WE X W e we) (r : JsOk X W es w) : JsOk X W (e :: es) (fun acc E τ M Q => we E τ M fun x M1 => strO x fun y => (acc ++ y).length ≤ sizeLine ∧ w (acc ++ y) E τ M1 Q) := by
  obtain ⟨ts, hp, hr⟩ := r
  refine ⟨_, .cons h hp, fun acc σ H Q ⟨P, E, τ, M, Q', st, sm, hw, hc, hE⟩ => ?_⟩
  refine ⟨P, E, τ, M, _, st, sm, hw, fun v H1 x M1 l1 sm1 r1 h1 => ?_, hE⟩
  cases x with
  | str y => exact ⟨y, r1, h1.1, hr _ _ _ _ ⟨P, E, τ, M1, Q', st.mono l1, sm1, h1.2, fun z H' M' l => hc z H' M' (l1.trans l), hE.mono l1⟩⟩
  | _ => exact h1.elim
theorem we_js {v1 v2 : Expr} {rest : List Expr} {w : ZWj} (h : JsOk X W (v1 :: v2 :: rest) w) : WE X W (.JoinedStr (v1 :: v2 :: rest) pos) (fun E τ M Q => w Str.empty E τ M fun out M1 => Q (.str out) M1) := by
  obtain ⟨ts, hp, hr⟩ := h
  refine PE.imp (pe_joined hp) fun σ H Q ⟨P, E, τ, M, Q', st, sm, hw, hc, hE⟩ => ?_
  exact hr _ _ _ _ ⟨P, E, τ, M, _, st, sm, hw, fun y H' M' l s q => hc _ _ (.str y) _ l s rfl q, hE⟩
theorem we_js1 (h : WE X W e we) : WE X W (.JoinedStr [e] pos) we := pe_joined1 h
end
/-! {} -/
theorem we_dnew {X : Cx} {W : L2.WX} {pos : Pos} : WE X W (.Dict [] [] pos) (fun _ _ M Q => allocD Q [] M) := PE.imp pe_dnewK fun σ H Q h => by
  obtain ⟨P, E, τ, M, Q', st, sm, hw, hc, hE⟩ := h
  exact fun p hp => hc _ _ (.ref p) _ (Le.new hp) (sm.put (m := .dic []) (.inl ⟨sm.fresh hp, hp⟩) (Le.new hp) rfl ⟨[], upd_same, .nil⟩) rfl (hw p (sm.fresh hp))
end Zd

set_option Elab.async false
set_option linter.all false
set_option maxRecDepth 100000
set_option maxHeartbeats 4000000
/-! Zd 18: f(k = v, ..), every parameter by its name. -/
namespace Zd
open PySem PySem.Spec PyProof.Rows L2

section
variable {X : Cx} {W : L2.WX} {CX : CXT} {k : Nat} {f : Addr} {fd : FuncData} {ps ks : List Str} {sp : Sp} {E : XK} {x : Str} {p pos kpos : Pos} {e : Expr} {kws : List Keyword} {t tk : TA} {g : List Value → List Value → List Value} {gV : List V → List V → List V} {σ : L2.St}
theorem run_fnKS {pins : List (Addr × Obj)} {H : Hp} {s : Shared} {Q : VK} {ws : List Value} {vs : List V} {perm : List Nat} (F : FnOk X.prog X.w X.K X.mg X.base CX k f fd ps sp) (hr : Room k X.A) (hb : KB0 X.K fd ps ks perm) (hx : PassesAt CX X σ E)
    (I : L2.Inv X pins σ H s) (hl : ws.length = ks.length) (rel : Vals vs (perm.map (ws.getD · .none))) (h : sp vs H Q E) : wpAny (model X.prog X.w) X.A (call (.ref f) [] (ks.zip ws)) (EP X pins σ Q) X.xe s := by
  refine wpAny_call (codeAny_mono (F.run X.A X.stack s H ⟨[], ks.zip ws⟩ (perm.map (ws.getD · .none)) vs Q E hr I.env0 (hb.2 s ws I.kIn hl) rel h) fun res s' post => ?_)
  cases res with
  | error e => exact hx pins H s e s' I post
  | ok fl =>
    cases fl with
    | ret u => exact I.after post
    | next => exact post.elim
    | brk => exact post.elim
    | cont => exact post.elim
theorem vals_perm {zs : List V} {ws : List Value} (r : Vals zs ws) : ∀ perm : List Nat, Vals (perm.map (zs.getD · .non)) (perm.map (ws.getD · .none))
  | [] => .nil
  | i :: perm => by
    refine .cons ?_ (vals_perm r perm)
    have get : ∀ {zs : List V} {ws : List Value}, Vals zs ws → ∀ i, RelV (zs.getD i .non) (ws.getD i .none) := fun {zs ws} r => by
      induction r with
      | nil => intro i; exact rfl
      | cons h _ ih => intro i; cases i with
        | zero => exact h
        | succ i => simpa using ih i
    exact get r i
theorem rs_perm {K : PySem.W.Frag} {H : Hp} : ∀ {ys : List PV} {zs : List V}, Rs K H ys zs → ∀ i, R K H (ys.getD i .non) (zs.getD i .non)
  | [], _, h, i => by have e : _ = [] := h; rw [e]; exact rfl
  | y :: ys, _, h, 0 => by obtain ⟨v, ws, rfl, r, _⟩ := h; exact r
  | y :: ys, _, h, i + 1 => by obtain ⟨v, ws, rfl, _, r⟩ := h; simpa using rs_perm r i
theorem Rs.perm {K : PySem.W.Frag} {H : Hp} {ys : List PV} {zs : List V} (r : Rs K H ys zs) : ∀ perm : List Nat, Rs K H (perm.map (ys.getD · .non)) (perm.map (zs.getD · .non))
  | [] => rfl
  | i :: perm => Rs.cons (rs_perm r i) (Rs.perm r perm)
theorem PK.imp0 {kws : List Keyword} {t t' : TA} (h : PK X kws t) (i : ∀ σ H Q, t' σ H Q → t σ H Q) : PK X kws t' := ⟨fun pos pins s σ H Q I q => h.run pos pins s σ H Q I (i _ _ _ q)⟩
abbrev WK (X : Cx) (W : L2.WX) (kws : List Keyword) (w : ZWa) : Prop := PK X kws (liftA X.K X.mg W w)
theorem wk_nil : WK X W [] wNil := PK.imp0 pk_nil fun σ H Q h => by
  obtain ⟨P, E, τ, M, Q', st, sm, hw, hc, hE⟩ := h
  exact hc [] _ [] _ Le.refl sm rfl hw
theorem wk_cons {wa : ZWe} {wr : ZWa} {nm : Option Str} (ha : WE X W e wa) (hr : WK X W kws wr) : WK X W (⟨nm, e, kpos⟩ :: kws) (wCons wa wr) := PK.imp0 (pk_cons ha hr) fun σ H Q h => by
  obtain ⟨P, E, τ, M, Q', st, sm, hw, hc, hE⟩ := h
  refine ⟨P, E, τ, M, _, st, sm, hw, fun v H1 x M1 l1 sm1 r1 h1 => ?_, hE⟩
  refine ⟨P, E, τ, M1, _, st.mono l1, sm1, h1, fun vs H2 xs M2 l2 sm2 r2 h2 => ?_, hE.mono l1⟩
  exact hc (v :: vs) _ _ _ (l1.trans l2) sm2 (Rs.cons (R.mono l2 _ _ r1) r2) h2
theorem kw_all (kws : List Keyword) (env : Env) (pos : Pos) : (backToKw pos (keywordEach kws env)).map (·.1) = kws.map (·.arg) := by
  induction kws with
  | nil => rfl
  | cons q r ih =>
    obtain ⟨a, v, kp⟩ := q
    show a :: (backToKw pos (keywordEach r env)).map (·.1) = a :: r.map (·.arg)
    rw [ih]
theorem pe_callK0 {E : L2.St → XK} (F : FnOk X.prog X.w X.K X.mg X.base CX k f fd ps sp) (hr : Room k X.A) (hg : Gl X x) (hm : X.mg x = some (.ref f)) (hk : PySem.W.keepIn X.K (.ref f) = true) {perm : List Nat} (hb : KB0 X.K fd ps ks perm) (hx : ∀ σ, PassesAt CX X σ (E σ))
    (hkw : PK X kws tk) (hks : kws.map (·.arg) = ks.map some) (hdb : (x == ("__debug__" : Str)) = false) :
    PE X (.Call (.Name x p) [] kws pos) (fun σ H Q => tk σ H fun zs H1 => zs.length = ks.length ∧ sp (perm.map (zs.getD · .non)) H1 Q (E σ)) := by
  have names := kw_all kws X.env pos
  rw [hks] at names
  have hall : (backToKw pos (keywordEach kws X.env)).all (·.1.isSome) = true := by
    have : ((backToKw pos (keywordEach kws X.env)).map (·.1)).all (·.isSome) = true := by rw [names]; simp
    simpa [List.all_map] using this
  have hfm : (backToKw pos (keywordEach kws X.env)).filterMap (·.1) = ks := by
    have : ((backToKw pos (keywordEach kws X.env)).map (·.1)).filterMap id = ks := by rw [names]; simp
    simpa [List.filterMap_map] using this
  have hpl : ((backTo pos (starEach [] X.env)).any (·.1) || (backToKw pos (keywordEach kws X.env)).any (·.1.isNone)) = false := by
    have h1 : (backToKw pos (keywordEach kws X.env)).any (·.1.isNone) = false := by
      rw [List.any_eq_false]
      intro q hq
      have := List.all_eq_true.mp hall q hq
      cases h : q.1 <;> simp_all
    rw [h1]; rfl
  refine ⟨fun pins s σ H Q inv h => ?_⟩
  refine wpAny_Call_Name_kw (ld_glob inv hg hm ?_ hdb)
  refine PySem.W.callWith_KW0 (h₀ := X.base) inv.ok.mod.kin hk hall ?_ hpl
  refine thn (hkw.run pos pins s σ H _ inv h) fun ws s2 ⟨zs, H2, I2, rz, q2⟩ => ⟨I2.kIn, ?_⟩
  rw [hfm]
  exact run_fnKS F hr hb (hx σ) I2 (by rw [← rz.length]; exact q2.1) (vals_perm rz perm) q2.2
theorem we_callK {sp : ZSp} {w : ZWa} {n : Nat} (C : CallOk X.prog X.w X.K X.mg X.base k x n ks sp) (hne : ks ≠ []) (hnx : ks.head? ≠ some excMark) (hr : Room k X.A) (tk : L2N.Takes X W) (hg : Gl X x) (hd : (x == ("__debug__" : Str)) = false) (h : WK X W kws w) (hks : kws.map (·.arg) = ks.map some) :
    WE X W (.Call (.Name x p) [] kws pos) (wCall sp w) := by
  rcases C.ex with ⟨z, _⟩ | ⟨_, z, _⟩ | ⟨f, fd, ps, sp0, _, F, hm, hk, hh⟩
  · exact absurd z hne
  · exact absurd (by rw [z]; rfl) hnx
  rcases hh with ⟨z, _⟩ | ⟨_, perm, hb, hsp⟩
  · exact absurd z hne
  refine PE.imp (pe_callK0 F hr hg hm hk hb (fun σ => L2N.passAt tk σ) h hks hd) fun σ H Q h => ?_
  obtain ⟨P, E, τ, M, Q', st, sm, hw, hc, hE⟩ := h
  refine ⟨P, E, τ, M, _, st, sm, hw, fun vs H1 xs M1 l1 sm1 r1 h1 => ?_, hE⟩
  obtain ⟨hl, h1⟩ := hsp xs M1 _ _ h1
  exact ⟨by rw [r1.length]; exact hl, P, _, M1, Q', E, r1.perm perm, sm1, h1, hc.mono l1, fun c fs M' cls d H' l s x e => hE c fs M' cls d H' (l1.trans l) s x e⟩
end
end Zd

set_option Elab.async false
set_option linter.all false
set_option maxRecDepth 100000
set_option maxHeartbeats 4000000
/-! Zd 19: min(xs, default=d), max(xs, default=d) of a list of ints. -/
namespace Zd
open PySem PySem.Spec PyProof.Rows L2

def mndI (mx : Bool) (ns : List Int) : Int := if mx then maxL ns else minL ns
def mndN (mx : Bool) : Str := if mx then Str.ofString "max" else Str.ofString "min"
def rMnd (K : PySem.W.Frag) (mx : Bool) : List V → List V → Hp → VK → Prop := fun xs zs H Q => ∃ (a : Addr) (ns : List Int) (d : V), xs = [.ref a] ∧ zs = [d] ∧ SqL K H a (ns.map V.int) ∧ (ns = [] → Q d H) ∧ (ns ≠ [] → Q (.int (mndI mx ns)) H)
theorem holds_ints {h : Heap} : ∀ {vs : List Value} {ns : List Int}, IntsAre vs ns → PySem.W.HoldAll h vs ns := fun i => by
  induction i with
  | nil => exact PySem.W.HoldAll.nil
  | cons n t _ ih => exact PySem.W.HoldAll.cons (PySem.W.holds_int n t) ih
theorem min_fold : ∀ (ys : List Int) (x : Int), PySem.W.minOf x ys ∈ x :: ys ∧ ∀ z ∈ x :: ys, PySem.W.minOf x ys ≤ z
  | [], x => ⟨List.mem_cons_self, fun z hz => by rw [List.mem_singleton.mp hz]; exact Int.le_refl _⟩
  | y :: ys, x => by
    have e : PySem.W.minOf x (y :: ys) = PySem.W.minOf (if y < x then y else x) ys := by
      show List.foldl _ _ _ = List.foldl _ _ _
      rw [List.foldl_cons]
      congr 1
      show (if decide (y < x) = true then y else x) = _
      simp only [decide_eq_true_eq]
    obtain ⟨h1, h2⟩ := min_fold ys (if y < x then y else x)
    rw [e]
    constructor
    · rcases List.mem_cons.mp h1 with h | h
      · rw [h]; split <;> simp
      · simp [h]
    · intro z hz
      have h3 := h2 _ List.mem_cons_self
      rcases List.mem_cons.mp hz with h | h
      · subst h; refine Int.le_trans h3 ?_; split <;> omega
      · rcases List.mem_cons.mp h with h | h
        · subst h; refine Int.le_trans h3 ?_; split <;> omega
        · exact h2 z (List.mem_cons_of_mem _ h)
theorem max_fold : ∀ (ys : List Int) (x : Int), PySem.W.maxOf x ys ∈ x :: ys ∧ ∀ z ∈ x :: ys, z ≤ PySem.W.maxOf x ys
  | [], x => ⟨List.mem_cons_self, fun z hz => by rw [List.mem_singleton.mp hz]; exact Int.le_refl _⟩
  | y :: ys, x => by
    have e : PySem.W.maxOf x (y :: ys) = PySem.W.maxOf (if x < y then y else x) ys := by
      show List.foldl _ _ _ = List.foldl _ _ _
      rw [List.foldl_cons]
      congr 1
      show (if decide (x < y) = true then y else x) = _
      simp only [decide_eq_true_eq]
    obtain ⟨h1, h2⟩ := max_fold ys (if x < y then y else x)
    rw [e]
    constructor
    · rcases List.mem_cons.mp h1 with h | h
      · rw [h]; split <;> simp
      · simp [h]
    · intro z hz
      have h3 := h2 _ List.mem_cons_self
      rcases List.mem_cons.mp hz with h | h
      · subst h; refine Int.le_trans ?_ h3; split <;> omega
      · rcases List.mem_cons.mp h with h | h
        · subst h; refine Int.le_trans ?_ h3; split <;> omega
        · exact h2 z (List.mem_cons_of_mem _ h)
theorem min_foldL (y : Int) (ys : List Int) : PySem.W.minOf y ys = minL (y :: ys) := by
  obtain ⟨h1, h2⟩ := min_fold ys y
  exact Int.le_antisymm (h2 _ (minL_mem (by simp))) (minL_le h1)
theorem max_foldL (y : Int) (ys : List Int) : PySem.W.maxOf y ys = maxL (y :: ys) := by
  obtain ⟨h1, h2⟩ := max_fold ys y
  exact Int.le_antisymm (maxL_le h1) (h2 _ (maxL_mem (by simp)))
theorem int_held {h : Heap} {v : Value} {n : Int} (H : PySem.W.Holds h v n) : ∃ t, v = .int n t := by
  obtain ⟨as, r⟩ := H
  cases r
  exact ⟨_, rfl⟩
section
variable {X : Cx} {W : L2.WX} {x : Str} {a d : Expr} {wa wd : ZWe} {p pos kpos : Pos}
theorem one_val {d : V} {ws : List Value} (r : Vals [d] ws) : ∃ dv, ws = [dv] ∧ RelV d dv := by
  cases r with
  | cons h t => cases t; exact ⟨_, rfl, h⟩
theorem crk_min (hc : X.calm = true) (hu : X.A.units + 64 < cLine) : CallRK X (.builtin "min") [Str.ofString "default"] (rMnd X.K false) := by
  intro pins s σ H xs zs us ws Q I r1 r2 h
  obtain ⟨a, ns, d, rfl, rfl, hs, h0, h1⟩ := h
  obtain ⟨its, rv, hl, _⟩ := I.list hs
  rw [Vals.ref1 r1]
  obtain ⟨dv, rfl, rd⟩ := one_val r2
  have hu2 : X.A.units + 1 + PySem.W.Datum.depth Int < cLine := by
    have e : PySem.W.Datum.depth Int ≤ 8 := by show _ ≤ _; decide
    omega
  refine PySem.W.min_list_datum_default (α := Int) (I.ok.hd hc) hl.isList (holds_ints rv.ints) hu2 (fun e h' tk hk => ⟨d, H, I.kept hk, rd, h0 e⟩) (fun y ys i v h' tk e hi hv hk => ?_)
  obtain ⟨t, rfl⟩ := int_held hv
  have q := h1 (by rw [e]; simp)
  rw [show mndI false ns = PySem.W.minOf y ys by rw [min_foldL, ← e]; rfl] at q
  exact ⟨.int _, H, I.kept hk, ⟨_, rfl⟩, q⟩
theorem crk_max (hc : X.calm = true) (hu : X.A.units + 64 < cLine) : CallRK X (.builtin "max") [Str.ofString "default"] (rMnd X.K true) := by
  intro pins s σ H xs zs us ws Q I r1 r2 h
  obtain ⟨a, ns, d, rfl, rfl, hs, h0, h1⟩ := h
  obtain ⟨its, rv, hl, _⟩ := I.list hs
  rw [Vals.ref1 r1]
  obtain ⟨dv, rfl, rd⟩ := one_val r2
  have hu2 : X.A.units + 1 + PySem.W.Datum.depth Int < cLine := by
    have e : PySem.W.Datum.depth Int ≤ 8 := by show _ ≤ _; decide
    omega
  refine PySem.W.max_list_datum_default (α := Int) (I.ok.hd hc) hl.isList (holds_ints rv.ints) hu2 (fun e h' tk hk => ⟨d, H, I.kept hk, rd, h0 e⟩) (fun y ys i v h' tk e hi hv hk => ?_)
  obtain ⟨t, rfl⟩ := int_held hv
  have q := h1 (by rw [e]; simp)
  rw [show mndI true ns = PySem.W.maxOf y ys by rw [max_foldL, ← e]; rfl] at q
  exact ⟨.int _, H, I.kept hk, ⟨_, rfl⟩, q⟩
def mndP (mx : Bool) (x y : PV) (M : Mp) (Q : ZQ) : Prop := match x with
  | .ref p => match (Zd.lget M p).bind Zd.zints with
    | some ns => (ns = [] → Q y M) ∧ (ns ≠ [] → Q (.int (mndI mx ns)) M)
    | none => False
  | _ => False
theorem we_mnd (mx : Bool) (hc : X.calm = true) (hu : X.A.units + 64 < cLine) (hg : Gl X (mndN mx)) (hm : X.mg (mndN mx) = none) (ha : WE X W a wa) (hd : WE X W d wd) (s1 : starEach [a] X.env = [(false, eval a X.env)]) :
    WE X W (.Call (.Name (mndN mx) p) [a] [⟨some (Str.ofString "default"), d, kpos⟩] pos) (fun E τ M Q => wa E τ M fun x M1 => wd E τ M1 fun y M2 => mndP mx x y M2 Q) := by
  have hA : WA X W [a] (wCons wa wNil) := wa_cons ha wa_nil s1
  have hK : WK X W [⟨some (Str.ofString "default"), d, kpos⟩] (wCons wd wNil) := wk_cons hd wk_nil
  have main : PE X (.Call (.Name (mndN mx) p) [a] [⟨some (Str.ofString "default"), d, kpos⟩] pos) (tCKw (rMnd X.K mx) (liftA X.K X.mg W (wCons wa wNil)) (liftA X.K X.mg W (wCons wd wNil))) := by
    cases mx with
    | false => exact pe_callBK (crk_min hc hu) hg hm (by rfl) hA hK (by decide) (by decide) (by rw [s1]; rfl) (by rw [s1]; rfl)
    | true => exact pe_callBK (crk_max hc hu) hg hm (by rfl) hA hK (by decide) (by decide) (by rw [s1]; rfl) (by rw [s1]; rfl)
  refine PE.imp main fun σ H Q h => ?_
  obtain ⟨P, E, τ, M, Q', st, sm, hw, hcn, hE⟩ := h
  refine ⟨P, E, τ, M, fun xs M1 => match xs with
    | [x] => wd E τ M1 fun y M2 => mndP mx x y M2 Q'
    | _ => False, st, sm, hw, fun vs H1 xs M1 l1 sm1 r1 h1 => ?_, hE⟩
  match xs, r1, h1 with
  | [x], r1, h1 =>
    obtain ⟨v, rfl, rv⟩ := Rs.of1 r1
    refine ⟨P, E, τ, M1, fun zs M2 => match zs with
      | [y] => mndP mx x y M2 Q'
      | _ => False, st.mono l1, sm1, h1, fun us H2 ys M2 l2 sm2 r2 h2 => ?_, hE.mono l1⟩
    match ys, r2, h2 with
    | [y], r2, h2 =>
      obtain ⟨u, rfl, ru⟩ := Rs.of1 r2
      have rx := R.mono l2 _ _ rv
      have k := hcn.mono (l1.trans l2)
      have h2 : mndP mx x y M2 Q' := h2
      cases x with
      | ref q =>
        obtain rfl := R.of_ref rx
        have h2 : (match (Zd.lget M2 q).bind Zd.zints with
          | some ns => (ns = [] → Q' y M2) ∧ (ns ≠ [] → Q' (.int (mndI mx ns)) M2)
          | none => False) := h2
        cases e : (Zd.lget M2 q).bind Zd.zints with
        | none => rw [e] at h2; exact h2.elim
        | some ns =>
          rw [e] at h2
          exact ⟨q, ns, u, rfl, rfl, sm2.ints e, fun e0 => k.now sm2 ru (h2.1 e0), fun e0 => k.now (x := .int _) sm2 rfl (h2.2 e0)⟩
      | _ => exact h2.elim
end
end Zd

set_option Elab.async false
set_option linter.all false
set_option maxRecDepth 100000
set_option maxHeartbeats 4000000
/-! Zd 20: sorted of a list of pairs of ints. -/
namespace Zd
open PySem PySem.Spec PyProof.Rows L2

def lexLe (p q : Int × Int) : Prop := p.1 < q.1 ∨ (p.1 = q.1 ∧ p.2 ≤ q.2)
def pairI (p : Int × Int) : PV := .tup [.int p.1, .int p.2]
/-- x is a pair of ints -/
def PrV (K : PySem.W.Frag) (H : Hp) (x : V) (p : Int × Int) : Prop := ∃ t, x = V.ref t ∧ SqT K H t [.int p.1, .int p.2]
def rSortedPT (K : PySem.W.Frag) : List V → Hp → VK → Prop := fun vs H Q => ∃ (a : Addr) (xs : List V) (ps : List (Int × Int)), vs = [V.ref a] ∧ SqL K H a xs ∧ Paired (fun x p => PrV K H x p) xs ps ∧
  ∀ (ys : List V) (qs : List (Int × Int)) (p : Addr), Paired (fun x p => PrV K H x p) ys qs → qs.Perm ps → qs.Pairwise lexLe → H p = none → Q (.ref p) (upd H p (.lst ys))
theorem paired_all {α β : Type} {r : α → β → Prop} {xs : List α} {ys : List β} (h : Paired r xs ys) : ∀ x ∈ xs, ∃ y ∈ ys, r x y := by
  induction h with
  | nil => intro x hx; cases hx
  | cons a _ ih =>
    intro x hx
    rcases List.mem_cons.mp hx with h | h
    · subst h; exact ⟨_, List.mem_cons_self, a⟩
    · obtain ⟨y, hy, r⟩ := ih x h
      exact ⟨y, List.mem_cons_of_mem _ hy, r⟩
theorem paired_eq {α β : Type} {r : α → β → Prop} {k : α → β} (hk : ∀ x y, r x y → k x = y) {xs : List α} {ys : List β} (h : Paired r xs ys) : xs.map k = ys := by
  induction h with
  | nil => rfl
  | cons a _ ih => rw [List.map_cons, hk _ _ a, ih]
theorem paired_of {α β : Type} {r : α → β → Prop} {k : α → β} : ∀ {xs : List α}, (∀ x ∈ xs, r x (k x)) → Paired r xs (xs.map k)
  | [], _ => .nil
  | x :: xs, h => .cons (h x List.mem_cons_self) (paired_of fun y hy => h y (List.mem_cons_of_mem _ hy))
section
variable {X : Cx}
open Classical in
theorem cr_sortedPT : CallR X (.builtin "sorted") (rSortedPT X.K) := by
  intro pins s σ H vs us Q I r h
  obtain ⟨a, xs, ps, rfl, hs, hx, q⟩ := h
  obtain ⟨its, rv, hl, hz⟩ := I.list hs
  obtain ⟨u, rfl, ru⟩ := vals1 r
  obtain rfl : u = Value.ref a := ru
  let k : V → Int × Int := fun x => if h : ∃ p, PrV X.K H x p then Classical.choose h else (0, 0)
  have hk : ∀ x p, PrV X.K H x p → k x = p := fun x p hp => by
    have he : ∃ p, PrV X.K H x p := ⟨p, hp⟩
    have e : k x = Classical.choose he := dif_pos he
    rw [e]
    obtain ⟨t, e1, h1⟩ := Classical.choose_spec he
    obtain ⟨t', e2, h2⟩ := hp
    rw [e1] at e2
    cases e2
    have e3 := I.tuple_inj h1 h2
    injection e3 with e4 e5
    injection e5 with e5 _
    injection e4 with e4
    injection e5 with e5
    exact Prod.ext e4 e5
  have hall := paired_all hx
  have hkx : ∀ x ∈ xs, PrV X.K H x (k x) := fun x hm => by
    obtain ⟨p, _, hp⟩ := hall x hm
    rw [hk x p hp]; exact hp
  obtain ⟨e1, e2⟩ := refs_back rv fun x m => by
    obtain ⟨t, e, _⟩ := hkx x m
    exact ⟨t, e⟩
  refine SrtO.sorted_pairsO (k := fun u => k (backV u)) hl.isList (by rw [← rv.length]; exact hz) (fun v hv => ?_) fun h' d out h1 h2 kp hd hn => ?_
  · obtain ⟨t, rfl⟩ := e2 v hv
    have hm : V.ref t ∈ xs := by rw [e1]; exact List.mem_map.mpr ⟨_, hv, rfl⟩
    obtain ⟨t', e, ht⟩ := hkx _ hm
    cases e
    obtain ⟨its2, r2, ⟨o, ho, hc, n, hd⟩, _⟩ := I.tuple ht
    obtain ⟨u1, u2, rfl, ri, rj⟩ := vals2 r2
    obtain ⟨t1, rfl⟩ := ri
    obtain ⟨t2, rfl⟩ := rj
    exact ⟨t, o, t1, t2, n, rfl, ho, hc, hd⟩
  · have h3 : ∀ u ∈ out, ∃ a, u = Value.ref a := fun u hu => e2 u (h2.perm.mem_iff.mp hu)
    obtain ⟨n, hn⟩ := hn
    have hb : (out.map backV).Perm xs := by
      rw [e1]
      exact h2.perm.map _
    have hlen : (out.map backV).length ≤ sizeLine := by rw [hb.length_eq]; exact hz
    have hy : ∀ y ∈ out.map backV, PrV X.K H y (k y) := fun y hm => hkx y (hb.mem_iff.mp hm)
    refine ⟨.ref d, upd H d (.lst (out.map backV)), I.laid (t' := s.toks) kp hd ⟨hlen, out, n, vals_back h3, hn⟩, rfl, q _ ((out.map backV).map k) d (paired_of hy) ?_ ?_ (I.hok.fresh hd)⟩
    · rw [← paired_eq hk hx]
      exact hb.map k
    · have h4 : SrtO.Srtd SrtO.lexB ((out.map backV).map k) := by
        rw [List.map_map]
        exact List.pairwise_map.mpr h1
      exact h4.imp fun {p q} h => by
        have := SrtO.lexB_no.mp h
        show p.1 < q.1 ∨ (p.1 = q.1 ∧ p.2 ≤ q.2)
        omega
end
def zpairs : List PV → Option (List (Int × Int))
  | [] => some []
  | .tup [.int i, .int j] :: r => (zpairs r).map ((i, j) :: ·)
  | _ :: _ => none
theorem zpairs_map : ∀ ps : List (Int × Int), zpairs (ps.map pairI) = some ps
  | [] => rfl
  | p :: r => by
    show (zpairs (r.map pairI)).map (p :: ·) = _
    rw [zpairs_map r]; rfl
theorem zpairs_of : ∀ {xs : List PV} {ps : List (Int × Int)}, zpairs xs = some ps → xs = ps.map pairI
  | [], ps, h => by cases h; rfl
  | x :: r, ps, h => by
    unfold zpairs at h
    split at h
    · rename_i e; cases e
    · rename_i i j r' e
      cases e
      cases e2 : zpairs r with
      | none => rw [e2] at h; cases h
      | some qs => rw [e2] at h; cases h; rw [zpairs_of e2]; rfl
    · cases h
theorem pairs_R {K : PySem.W.Frag} {H : Hp} : ∀ {ps : List (Int × Int)} {vs : List V}, Rs K H (ps.map pairI) vs → Paired (fun x p => PrV K H x p) vs ps
  | [], vs, r => by have e : vs = [] := r; subst e; exact .nil
  | p :: ps, vs, r => by
    obtain ⟨v, ws, rfl, r1, r2⟩ := r
    refine .cons ?_ (pairs_R r2)
    obtain ⟨a, us, rfl, s, ru⟩ := r1
    obtain ⟨u, w, rfl, q1, q2⟩ := Rs.of2 ru
    obtain rfl := R.of_int q1
    obtain rfl := R.of_int q2
    exact ⟨a, rfl, s⟩
theorem R_pairs {K : PySem.W.Frag} {H : Hp} : ∀ {vs : List V} {ps : List (Int × Int)}, Paired (fun x p => PrV K H x p) vs ps → Rs K H (ps.map pairI) vs := fun h => by
  induction h with
  | nil => rfl
  | cons a _ ih =>
    obtain ⟨t, rfl, s⟩ := a
    exact ⟨_, _, rfl, ⟨t, _, rfl, s, _, _, rfl, rfl, _, _, rfl, rfl, rfl⟩, ih⟩
end Zd

set_option Elab.async false
set_option linter.all false
set_option maxRecDepth 100000
set_option maxHeartbeats 4000000
/-! Zd 21: list(d.values()). -/
namespace Zd
open PySem PySem.Spec PyProof.Rows L2

def rValsL : V → Hp → VK → Prop := fun x H Q => ∃ (d : Addr) (kvs : List (Key × V)), x = .ref d ∧ H d = some (.dK kvs) ∧ ∀ p, H p = none → Q (.ref p) (upd H p (.lst (kvs.map (·.2))))
def tListVals (te : TE) : TE := fun σ H Q => te σ H fun x H1 => rValsL x H1 Q
theorem vals_snd : ∀ {kvs : List (Key × V)} {vs : List (Key × Value)}, KV kvs vs → Vals (kvs.map (·.2)) (vs.map (·.2)) := fun h => by
  induction h with
  | nil => exact .nil
  | cons a _ ih => exact .cons a.2 ih
theorem items_eq {vs : List (Key × Value)} {acc : Array Value} (h : ItemsOf (fun i v => ∃ k, vs[i]? = some (k, v)) acc vs.length) : acc.toList = vs.map (·.2) := by
  obtain ⟨h1, h2⟩ := h
  apply List.ext_getElem?
  intro i
  rw [List.getElem?_map, Array.getElem?_toList]
  by_cases hi : i < vs.length
  · have e : acc[i]? = some acc[i] := by simp [h1, hi]
    obtain ⟨k, hk⟩ := h2 i _ e
    rw [e, hk]
    rfl
  · rw [List.getElem?_eq_none (by omega), Array.getElem?_eq_none (by omega)]
    rfl
section
variable {X : Cx} {e : Expr} {te : TE} {p apos cpos pos : Pos}
theorem pe_listVals (hc : X.calm = true) (he : PE X e te) (hg : Gl X "list") (hm : X.mg "list" = none) (hv : bootBuiltins "list" = some (.type "list")) (hbase : attributeBase e "values" X.env (eval e X.env) = eval e X.env) (hline : (apos.endLine == cpos.line) = true)
    (hs : starEach [.Call (.Attribute e "values" apos) [] [] cpos] X.env = (false, eval (.Call (.Attribute e "values" apos) [] [] cpos) X.env) :: starEach [] X.env := by rfl) :
    PE X (.Call (.Name "list" p) [.Call (.Attribute e "values" apos) [] [] cpos] [] pos) (tListVals te) := by
  refine ⟨fun pins s σ H Q I hq => ?_⟩
  refine wpAny_Call_Name_kw (ld_blt I hg hm hv ?_)
  refine PyProof.Rows.callWith_type1 ?_ hs rfl
  rw [hs]
  show wpAny _ _ (spliced ((false, eval (.Call (.Attribute e "values" apos) [] [] cpos) X.env) :: backTo pos (starEach [] X.env))) _ _ s
  refine Calls.spliced_cons ?_
  refine wpAny_Call_method (T := "dict") (id := "dict.values") hbase rfl hline F.plainAttrs_dict F.slot_dict_values F.type_dict_values (thn (he.run pins s σ H _ I hq) fun u s1 ⟨x, H1, I1, rx, d, kvs, ex, hd, q⟩ => ?_)
  subst ex
  obtain rfl : u = Value.ref d := rx
  obtain ⟨hz, hs0, vs, kv, hdo⟩ := I1.hok d _ hd
  obtain ⟨ep, hat⟩ := hdo.dictAt
  have lk : kvs.length = vs.length := Paired.length kv
  have I2 : Inv X pins σ H1 { s1 with heap := s1.heap.push { cls := .type "dict_values", data := .fields #[.ref d] } } := I1.kept (t' := s1.toks) fun b ob q => Heap.get?_push_of_some _ q
  refine ⟨hdo.typeIs, hdo.mapOf.noDict, ?_⟩
  show wpAny _ _ (callWith cpos (.builtin "dict.values") [.ref d] [] []) _ X.xe s1
  refine method_meetsIn F.slot_dict_values F.entry_dict_values rfl (PySem.evalArgs_none ⟨rfl, hdo.typeIs, F.args_dict_values_1 _, _, meets_dict_values (mixKind X.prog X.w) d hs0, ⟨vs, hdo⟩, ?_⟩)
  refine Calls.spliced_nil ?_
  refine PySem.W.kdl_call (PySem.W.kdl_values (knd := mixKind X.prog X.w) (kvs := vs) (ep := ep) (d := d)) (I1.ok.hd hc) ⟨⟨_, Heap.get?_push_size _ rfl, rfl, rfl⟩, hat.push _⟩ (by omega) fun h' tk acc c hk hS hacc => ?_
  have ea := items_eq hacc
  refine ⟨.ref _, upd H1 _ (.lst (kvs.map (·.2))), I2.laid (t' := tk) hk (Nat.le_refl _) ⟨by rw [List.length_map]; omega, acc.toList, c, by rw [ea]; exact vals_snd kv, by rw [Array.toArray_toList]; exact hS⟩, rfl, q _ (I2.hok.fresh (Nat.le_refl _))⟩
end
end Zd

set_option Elab.async false
set_option linter.all false
set_option maxRecDepth 100000
set_option maxHeartbeats 4000000
/-! Zd 22: raise of own exceptions, try .. except X as n: return of fields and constants. -/
namespace Zd
open PySem PySem.Spec PyProof.Rows L2

/-- what a suite returns: constants, fields of the caught exception -/
inductive SI where
  | int (i : Int) | bl (b : Bool) | str (x : Str) | non
  | fld (f : Str)
  | eqw (f : Str) (j : Nat)
def siVal (τ : Tau) (fs : List (Str × PV)) : SI → Option PV
  | .int i => some (.int i)
  | .bl b => some (.bl b)
  | .str x => some (.str x)
  | .non => some .non
  | .fld f => fs.lookup f
  | .eqw f j => match τ[j]? with
    | some (some (.str s)) => match fs.lookup f with
      | some (.str t) => some (.bl (decide (t = s)))
      | _ => none
    | _ => none
def sisVal (τ : Tau) (fs : List (Str × PV)) : List SI → Option (List PV)
  | [] => some []
  | i :: r => (siVal τ fs i).bind fun x => (sisVal τ fs r).map (x :: ·)
/-- a tuple of several, or the one -/
def suVal (τ : Tau) (fs : List (Str × PV)) (tup : Bool) (its : List SI) : Option PV := (sisVal τ fs its).bind fun xs => if tup = true then some (.tup xs) else xs.head?
def wRaise (c : Str) (fl : List Str) (w : ZWa) : ZWs := fun J _ τ M => w (J.ex τ) τ M fun xs M1 => (xs.length = fl.length ∧ xs.length ≤ 500) ∧ ∃ M2, Sg M2 M1 ∧ J.ex τ c (fl.zip xs) M2
def wTry (c : Str) (i : Nat) (tup : Bool) (its : List SI) (w : ZWs) : ZWs := fun J nx τ M => w { J with ex := fun τ' c' fs M' => c' = c ∧ i < τ'.length ∧ ∃ x, suVal τ' fs tup its = some x ∧ J.rt x M' } nx τ M
theorem zip_mem {α β : Type} : ∀ {fl : List α} {xs : List β} {f : α} {x : β}, (f, x) ∈ fl.zip xs → ∃ i : Nat, fl[i]? = some f ∧ xs[i]? = some x
  | [], _, _, _, h => by simp at h
  | _ :: _, [], _, _, h => by simp at h
  | a :: fl, b :: xs, f, x, h => by
    rw [List.zip_cons_cons] at h
    rcases List.mem_cons.mp h with h | h
    · cases h; exact ⟨0, rfl, rfl⟩
    · obtain ⟨i, h1, h2⟩ := zip_mem h
      exact ⟨i + 1, h1, h2⟩
theorem mem_zip {α β : Type} : ∀ {fl : List α} {xs : List β} {i : Nat} {f : α} {x : β}, fl[i]? = some f → xs[i]? = some x → (f, x) ∈ fl.zip xs
  | [], _, _, _, _, h, _ => by simp at h
  | _ :: _, [], _, _, _, _, h => by simp at h
  | a :: fl, b :: xs, 0, f, x, h, h' => by
    have h : a = f := by simpa using h
    have h' : b = x := by simpa using h'
    subst h h'
    exact List.mem_cons_self
  | a :: fl, b :: xs, i + 1, f, x, h, h' => List.mem_cons_of_mem _ (mem_zip (i := i) (by simpa using h) (by simpa using h'))
section
variable {X : Cx} {e : Expr} {es : List Expr} {ta : TA} {p pos : Pos}
theorem mk_endN {pins : List (Addr × Obj)} {σ : L2.St} {H1 H2 : Hp} {Q : XK} {hp hp2 h2 : Heap} {g1 g2 : Array GenState} {d1 d2 : Drawn} {t1 t2 : Nat} {os1 os2 : OsState} {a C d : Addr} {fs : List (Str × V)} (T : Raises X (.ref C)) (I1 : Inv X pins σ H1 ⟨hp, g1, d1, t1, os1⟩)
    (ha : hp.objs.size ≤ a) (k : ∀ b o, hp.get? b = some o → hp2.get? b = some o) (un : Un (frs X.stack) [] (upd H1 a (exo a C none)) H2 hp2 h2) (hok : HOk X.prog X.w H2 h2) (ho : os2 = os1) (hb : AllBare g2)
    (ea : H2 a = some (exo a C (some d))) (ed : H2 d = some (exd d fs)) (hd1 : H1 d = none) (q : Q (.ref C) (some d) (upd (del H2 a) d (.xd fs))) : L2N.MkP X pins σ Q (.ref a) ⟨h2, g2, d2, t2, os2⟩ := by
  obtain ⟨t0, G, J, kG, ge, hoe, na⟩ := mk_end0 (d2 := d2) (t2 := t2) I1 ha k un hok ho hb ea ed hd1
  exact ⟨a, _, _, ⟨G, g2, d2, t2, os2⟩, _, .ref C, some d, rfl, J, kG, ge, hoe, ⟨rfl, rfl, fun vs e => by cases e; rfl⟩, rfl, rfl, na, rfl, hb, T, q⟩
theorem pmk_oexN {CX : CXT} {x : Str} {C fI : Addr} {k : Nat} {fd : FuncData} {ps : List Str} {sp : Sp} {ds : List Value} {dvs : List V} (T : OexC X.K C) (iC : PySem.W.findIn X.K (.ref C) "__init__" = some (some (.ref fI))) (tI : PySem.W.typeIn X.K (.ref fI) = some (.type "function"))
    (F1 : FnOk X.prog X.w X.K X.mg X.base CX k fI fd ps sp) (hr : Room (k + 1) X.A) (hb : Binds X.K fd ps ds) (hd : Vals dvs ds) (hx : Passes CX X (fun _ _ _ => False)) (hg : Gl X x) (hm : X.mg x = some (.ref C)) (ha : PA X (e :: es) ta)
    (hdb : (x == ("__debug__" : Str)) = false) (he : starEach (e :: es) X.env = (false, eval e X.env) :: starEach es X.env) (hpl : (backTo pos (starEach es X.env)).any (·.1) = false) :
    L2N.PMk X (.Call (.Name x p) (e :: es) [] pos) (tMkO C sp dvs ta) := by
  intro pins s σ H Q I h
  obtain ⟨nm, q, N, bs, bm, sn, sub, ab, col, dd, k0, k1, k2, k3, k5, hC, hbm⟩ := T.cls
  refine wpAny_Call_Name_kw (ld_glob I hg hm ?_ hdb)
  refine PySem.W.callWith_K (h₀ := X.base) I.ok.mod.kin T.kC (thn (ha.run pos pins s σ H _ I h) fun us s1 ⟨vs, H1, I1, r1, hz, q1⟩ => ⟨I1.kIn, ?_⟩) he hpl
  show wpAny _ _ (call (.ref C) us) _ _ _
  obtain ⟨hp, g, dr, tk, os⟩ := s1
  have hsz : hp.objs.size ≤ hp.objs.size + 1 := Nat.le_succ _
  have hn : H1 (hp.objs.size + 1) = none := I1.hok.fresh hsz
  have hq := q1 (hp.objs.size + 1) hn
  have kk : ∀ b o, hp.get? b = some o → ((hp.push (PySem.W.kdv_tup us)).push (PySem.HandSPX.excO C hp.objs.size)).get? b = some o := fun b o e => Heap.get?_push_of_some _ (Heap.get?_push_of_some _ e)
  have hget : ((hp.push (PySem.W.kdv_tup us)).push (PySem.HandSPX.excO C hp.objs.size)).get? (hp.objs.size + 1) = some (PySem.HandSPX.excO C hp.objs.size) := by heap_get
  have I2 : Inv X pins σ (upd H1 (hp.objs.size + 1) (exo (hp.objs.size + 1) C none)) ⟨(hp.push (PySem.W.kdv_tup us)).push (PySem.HandSPX.excO C hp.objs.size), g, dr, tk, os⟩ :=
    I1.laid (t' := tk) (a := hp.objs.size + 1) (o := exo (hp.objs.size + 1) C none) (h' := (hp.push (PySem.W.kdv_tup us)).push (PySem.HandSPX.excO C hp.objs.size)) kk hsz (exo_ok hget)
  have r2 : Vals (V.ref (hp.objs.size + 1) :: (vs ++ dvs)) (Value.ref (hp.objs.size + 1) :: (us ++ ds)) := .cons rfl (r1.append hd)
  have hl : (Value.ref (hp.objs.size + 1) :: us ++ ds).length = ps.length := by
    have e := r2.length
    rw [F1.len _ _ _ _ hq] at e
    exact e.symm
  have hus : us.length ≤ sizeLine := by
    rw [← Paired.length r1, sizeLine_eq]
    omega
  refine wpAny_call (PySem.HandSPX.call_own F.excBase_ValueError (fun Y => PySem.HandSPX.refsVE_contains Y bm hbm) (I1.kIn _ _ hC) (PySem.W.looks_findIn I1.kIn iC) (fun self => PySem.W.bind_fn I1.kIn self tI) hus
    (codeAny_mono (F1.run _ X.stack _ _ ⟨Value.ref (hp.objs.size + 1) :: us, []⟩ (Value.ref (hp.objs.size + 1) :: (us ++ ds)) _ _ (fun _ _ _ => False) (hr.make C us []) (I2.env0.make C us []) (hb _ (Value.ref (hp.objs.size + 1) :: us) I2.kIn hl) r2 hq) fun r s' hq' => ?_))
  cases r with
  | error er => exact hx pins σ _ _ er s' I2 hq'
  | ok fl =>
    cases fl with
    | ret u =>
      obtain ⟨v, H2, os2, bare2, un2, hok2, rv, ev, d, fs, ea, ed, hd1, q2⟩ := hq'
      subst ev
      obtain ⟨h2, g2, d2, t2, os'⟩ := s'
      exact ⟨rv, mk_endN (raises_own T.exC T.tyC) I1 hsz kk un2 hok2 os2 bare2 ea ed hd1 q2⟩
    | next => exact False.elim hq'
    | brk => exact False.elim hq'
    | cont => exact False.elim hq'
end
section
variable {X : Cx} {W : L2.WX} {c n : Str} {fl : List Str} {k m : Nat} {sp : ZSp} {e : Expr} {es : List Expr} {w : ZWa} {p pos pos' : Pos}
theorem excAt_of (C : CallOk X.prog X.w X.K X.mg X.base k c m (excMark :: fl) sp) : ExcAt X.prog X.w X.K X.mg X.base k c fl := by
  rcases C.ex with ⟨z, _⟩ | ⟨fl', z, h⟩ | ⟨f, fd, ps, sp0, z, _⟩
  · cases z
  · cases z; exact h
  · exact absurd rfl z
theorem ws_raise (C : ExcAt X.prog X.w X.K X.mg X.base k c fl) (hc : X.calm = true) (tk : L2N.Takes X W) (hr : Room k X.A) (hg : Gl X c) (hd : (c == ("__debug__" : Str)) = false) (h : WA X W (e :: es) w)
    (he : starEach (e :: es) X.env = (false, eval e X.env) :: starEach es X.env) (hpl : (backTo pos (starEach es X.env)).any (·.1) = false) : WS X W (.Raise (some (.Call (.Name c p) (e :: es) [] pos)) none pos') (wRaise c fl w) := by
  obtain ⟨A, fI, fd, ps, j, hm, T, hj, F, hb⟩ := C.ex
  refine PS.imp (L2N.ps_raise hc tk (pmk_oexN T.ox T.iC T.tI F (hr.mono hj) hb .nil (L2N.passes_call tk fun _ _ _ _ z => z.elim) hg hm h hd he hpl)) fun D σ H h => ?_
  obtain ⟨P, J, nx, τ, M, st, sm, hw, hn, hjk⟩ := h
  refine ⟨P, J.ex τ, τ, M, _, st, sm, hw, fun vs H1 xs M1 l1 sm1 r1 h1 => ?_, hjk.ex σ H τ Le.refl st⟩
  obtain ⟨⟨hl, h5⟩, M2, sg, h2⟩ := h1
  refine ⟨by rw [r1.length]; omega, fun a ha => ⟨a, vs, by rw [List.append_nil], by rw [r1.length]; exact hl, upd_same, fun d H2 fs hd0 hda e1 e2 hf hk => ?_⟩⟩
  have hd1 : H1 d = none := by rw [upd_ne hda] at hd0; exact hd0
  refine ⟨rfl, d, fs, e1, e2, hd1, ?_⟩
  have eH : upd (del H2 a) d (.xd fs) = upd H1 d (.xd fs) := by
    funext b
    by_cases hb : b = d
    · subst hb; rw [upd_same, upd_same]
    · rw [upd_ne hb, upd_ne hb]
      by_cases hba : b = a
      · subst hba; rw [del_same, ha]
      · rw [del_ne hba, hk b hba hb, upd_ne hba]
  rw [eH]
  have l2 : Le H1 (upd H1 d (.xd fs)) := Le.new hd1
  have sm2 : SRm X.K P (upd H1 d (.xd fs)) M1 := sm1.new_tup hd1
  refine hjk.ex σ H τ Le.refl st c _ M2 (.ref A) (some d) _ (l1.trans l2) (sg _ _ _ sm2) ⟨hm, .inr ⟨d, fs, rfl, upd_same, ?_, fun f x hfx => ?_⟩⟩ h2
  · have smH := sg _ _ _ sm1
    refine ⟨?_, ?_⟩
    · cases eM : M2 d with
      | none => rfl
      | some o => exact absurd hd1 (smH.there eM)
    · cases eP : P d with
      | none => rfl
      | some o => have := (smH.pin d o eP).1; rw [hd1] at this; cases this
  · obtain ⟨i, hi1, hi2⟩ := zip_mem hfx
    obtain ⟨v, hv, rv⟩ := r1.get hi2
    exact ⟨v, hf f v (mem_zip hi1 hv), R.mono l2 _ _ rv⟩
/-! ### the suite -/
variable {a A : Addr} {oe : Obj} {cls : Value} {d : Option Addr} {pn : List (Addr × Obj)} {i : Nat}
def tSI (K : PySem.W.Frag) (a : Addr) (cls : Value) (d : Option Addr) (A : Addr) (i : Nat) : SI → TE
  | .int z => tC (.int z)
  | .bl b => tC (.bl b)
  | .str x => tC (.str x)
  | .non => tC .non
  | .fld f => tXf a cls d A f (tVar i)
  | .eqw f j => tAndV (tCB (rIsi K) (tCons (tVar j) (tCons (tC (.ty "str")) tNil))) (tAndV (tCB (rIsi K) (tCons (tXf a cls d A f (tVar i)) (tCons (tC (.ty "str")) tNil))) (tOp rEq (tXf a cls d A f (tVar i)) (tVar j)))
def tSIs (K : PySem.W.Frag) (a : Addr) (cls : Value) (d : Option Addr) (A : Addr) (i : Nat) : List SI → TA
  | [] => tNil
  | s :: r => tCons (tSI K a cls d A i s) (tSIs K a cls d A i r)
/-- which text an item stands for -/
def chkSI (lo : Nat → Str → Bool) (bt : Str → Bool) (fl : List Str) (n : Str) : SI → Expr → Bool
  | .int z, e => match e with
    | .Constant (.int t) _ _ => decide (t = z)
    | _ => false
  | .bl b, e => match e with
    | .Constant (.bool t) _ _ => decide (t = b)
    | _ => false
  | .str x, e => match e with
    | .Constant (.str t) _ _ => decide (t = x)
    | _ => false
  | .non, e => match e with
    | .Constant .none _ _ => true
    | _ => false
  | .fld f, e => match e with
    | .Attribute (.Name y _) g _ => decide (y = n) && decide (g = f) && decide (f ∈ fl)
    | _ => false
  | .eqw f j, e => match e with
    | .BoolOp .And [.Call (.Name a1 _) [.Name y1 _, .Name s1 _] [] _, .Call (.Name a2 _) [.Attribute (.Name n1 _) f1 _, .Name s2 _] [] _, .Compare (.Attribute (.Name n2 _) f2 _) [.Eq] [.Name y2 _] _] _ =>
      decide (a1 = Str.ofString "isinstance" ∧ a2 = Str.ofString "isinstance" ∧ s1 = Str.ofString "str" ∧ s2 = Str.ofString "str" ∧ y2 = y1 ∧ n1 = n ∧ n2 = n ∧ f1 = f ∧ f2 = f ∧ f ∈ fl ∧ y1 ≠ n ∧ bt (Str.ofString "isinstance") = true ∧ bt (Str.ofString "str") = true ∧ lo j y1 = true)
    | _ => false
def chkSIs (lo : Nat → Str → Bool) (bt : Str → Bool) (fl : List Str) (n : Str) : List SI → List Expr → Bool
  | [], [] => true
  | s :: r, e :: es => chkSI lo bt fl n s e && chkSIs lo bt fl n r es
  | _, _ => false
def chkSu (lo : Nat → Str → Bool) (bt : Str → Bool) (fl : List Str) (n : Str) (tup : Bool) (its : List SI) (e : Expr) : Bool := if tup = true then decide (its.length ≤ 100) && (match e with
  | .Tuple es _ _ => chkSIs lo bt fl n its es
  | _ => false) else (match its with
  | [s] => chkSI lo bt fl n s e
  | _ => false)
theorem star_si {lo : Nat → Str → Bool} {bt : Str → Bool} {s : SI} {env : Env} (h : chkSI lo bt fl n s e = true) : starEach (e :: es) env = (false, eval e env) :: starEach es env := by
  cases e <;> first | rfl | (cases s <;> exact Bool.noConfusion h)
theorem boot_str : bootBuiltins (Str.ofString "str") = some (.type "str") := by decide +kernel
theorem chkSI_ne {lo : Nat → Str → Bool} {bt : Str → Bool} {N : List Str} (hlo : ∀ j y, lo j y = true → N[j]? = some y) (hN : N[i]? = some n) : ∀ {s : SI} {e : Expr} {f : Str} {j : Nat}, chkSI lo bt fl n s e = true → s = .eqw f j → j ≠ i
  | .eqw f j, e, _, _, h, rfl => by
    have h : (match (generalizing := false) e with
      | .BoolOp .And [.Call (.Name a1 _) [.Name y1 _, .Name s1 _] [] _, .Call (.Name a2 _) [.Attribute (.Name n1 _) f1 _, .Name s2 _] [] _, .Compare (.Attribute (.Name n2 _) f2 _) [.Eq] [.Name y2 _] _] _ =>
        decide (a1 = Str.ofString "isinstance" ∧ a2 = Str.ofString "isinstance" ∧ s1 = Str.ofString "str" ∧ s2 = Str.ofString "str" ∧ y2 = y1 ∧ n1 = n ∧ n2 = n ∧ f1 = f ∧ f2 = f ∧ f ∈ fl ∧ y1 ≠ n ∧ bt (Str.ofString "isinstance") = true ∧ bt (Str.ofString "str") = true ∧ lo j y1 = true)
      | _ => false) = true := h
    split at h
    · obtain ⟨_, _, _, _, _, _, _, _, _, _, hne, _, _, g5⟩ := of_decide_eq_true h
      intro z
      subst z
      have := hlo _ _ g5
      rw [hN] at this
      exact hne (Option.some.inj this).symm
    · cases h
theorem chkSIs_ne {lo : Nat → Str → Bool} {bt : Str → Bool} {N : List Str} (hlo : ∀ j y, lo j y = true → N[j]? = some y) (hN : N[i]? = some n) : ∀ {its : List SI} {es : List Expr}, chkSIs lo bt fl n its es = true → ∀ f j, SI.eqw f j ∈ its → j ≠ i
  | [], _, _, f, j, hm => by cases hm
  | _ :: _, [], h, _, _, _ => by cases h
  | s :: r, e :: es, h, f, j, hm => by
    have h : (chkSI lo bt fl n s e && chkSIs lo bt fl n r es) = true := h
    rw [Bool.and_eq_true] at h
    rcases List.mem_cons.mp hm with z | z
    · exact chkSI_ne hlo hN h.1 z.symm
    · exact chkSIs_ne hlo hN h.2 f j z
theorem chkSu_ne {lo : Nat → Str → Bool} {bt : Str → Bool} {N : List Str} (hlo : ∀ j y, lo j y = true → N[j]? = some y) (hN : N[i]? = some n) {tup : Bool} {its : List SI} {e : Expr} (h : chkSu lo bt fl n tup its e = true) : ∀ f j, SI.eqw f j ∈ its → j ≠ i := by
  unfold chkSu at h
  split at h
  · obtain ⟨_, h⟩ := Bool.and_eq_true_iff.mp h
    split at h
    · exact chkSIs_ne hlo hN h
    · cases h
  · split at h
    · intro f j hm
      exact chkSI_ne hlo hN h (List.mem_singleton.mp hm).symm
    · cases h
section
variable {fI : Addr} {lo : Nat → Str → Bool} {bt : Str → Bool}
theorem pe_si (hlo : ∀ j y, lo j y = true → X.N[j]? = some y ∧ Vis X.env.scope y ∧ (y == ("__debug__" : Str)) = false ∧ (y == ("__classdict__" : Str)) = false) (hbt : ∀ x, bt x = true → Gl X x ∧ X.mg x = none) (T : ExcC X.K A fI fl) (hz : Zc cls d oe) (hf : ∃ vs, oe.data = .fields vs) (hN : X.N[i]? = some n) (hv : Vis X.env.scope n) (h1 : (n == ("__debug__" : Str)) = false) (h2 : (n == ("__classdict__" : Str)) = false) :
    ∀ (s : SI) (e : Expr), chkSI lo bt fl n s e = true → PE (X.suite a ((a, oe) :: pn)) e (tSI X.K a cls d A i s)
  | .int z, e, h => by
    have h : (match (generalizing := false) e with
      | .Constant (.int t) _ _ => decide (t = z)
      | _ => false) = true := h
    split at h
    · obtain rfl := of_decide_eq_true h; exact pe_int
    · cases h
  | .bl z, e, h => by
    have h : (match (generalizing := false) e with
      | .Constant (.bool t) _ _ => decide (t = z)
      | _ => false) = true := h
    split at h
    · obtain rfl := of_decide_eq_true h; exact pe_bl
    · cases h
  | .str z, e, h => by
    have h : (match (generalizing := false) e with
      | .Constant (.str t) _ _ => decide (t = z)
      | _ => false) = true := h
    split at h
    · obtain rfl := of_decide_eq_true h; exact pe_str
    · cases h
  | .non, e, h => by
    have h : (match (generalizing := false) e with
      | .Constant .none _ _ => true
      | _ => false) = true := h
    split at h
    · exact pe_non
    · cases h
  | .fld f, e, h => by
    have h : (match (generalizing := false) e with
      | .Attribute (.Name y _) g _ => decide (y = n) && decide (g = f) && decide (f ∈ fl)
      | _ => false) = true := h
    split at h
    · rw [Bool.and_eq_true, Bool.and_eq_true] at h
      obtain ⟨⟨g1, g2⟩, g3⟩ := h
      obtain rfl := of_decide_eq_true g1
      obtain rfl := of_decide_eq_true g2
      exact pe_xf T.xf (T.no _ (of_decide_eq_true g3)) hz hf (pe_var (X := X.suite a ((a, oe) :: pn)) hN hv h1 h2) rfl
    · cases h
  | .eqw f j, e, h => by
    have h : (match (generalizing := false) e with
      | .BoolOp .And [.Call (.Name a1 _) [.Name y1 _, .Name s1 _] [] _, .Call (.Name a2 _) [.Attribute (.Name n1 _) f1 _, .Name s2 _] [] _, .Compare (.Attribute (.Name n2 _) f2 _) [.Eq] [.Name y2 _] _] _ =>
        decide (a1 = Str.ofString "isinstance" ∧ a2 = Str.ofString "isinstance" ∧ s1 = Str.ofString "str" ∧ s2 = Str.ofString "str" ∧ y2 = y1 ∧ n1 = n ∧ n2 = n ∧ f1 = f ∧ f2 = f ∧ f ∈ fl ∧ y1 ≠ n ∧ bt (Str.ofString "isinstance") = true ∧ bt (Str.ofString "str") = true ∧ lo j y1 = true)
      | _ => false) = true := h
    split at h
    · obtain ⟨rfl, rfl, rfl, rfl, rfl, rfl, rfl, rfl, rfl, g1, g2, g3, g4, g5⟩ := of_decide_eq_true h
      obtain ⟨l1, l2, l3, l4⟩ := hlo _ _ g5
      obtain ⟨i1, i2⟩ := hbt _ g3
      obtain ⟨t1, t2⟩ := hbt _ g4
      have pf := fun p1 p2 : Pos => pe_xf (pn := pn) (oe := oe) (a := a) (pos := p2) T.xf (T.no _ g1) hz hf (pe_var (X := X.suite a ((a, oe) :: pn)) (pos := p1) hN hv h1 h2) rfl
      have pv := fun p1 : Pos => pe_var (X := X.suite a ((a, oe) :: pn)) (pos := p1) l1 l2 l3 l4
      have pt := fun p1 : Pos => pe_bltn (X := X.suite a ((a, oe) :: pn)) (pos := p1) (v := .ty "str") t1 t2 boot_str rfl (by decide +kernel) (by decide +kernel)
      refine pe_and (pe_callB call_isi i1 i2 rfl (pa_cons (pv _) (pa_cons (pt _) pa_nil rfl) rfl) (by decide +kernel) (by decide +kernel)) ?_
      refine pe_and (pe_callB call_isi i1 i2 rfl (pa_cons (pf _ _) (pa_cons (pt _) pa_nil rfl) rfl) (by decide +kernel) (by decide +kernel)) ?_
      exact pe_one (pe_cmpR op_eq (pf _ _) (pv _) rfl)
    · cases h
theorem pa_sis (hlo : ∀ j y, lo j y = true → X.N[j]? = some y ∧ Vis X.env.scope y ∧ (y == ("__debug__" : Str)) = false ∧ (y == ("__classdict__" : Str)) = false) (hbt : ∀ x, bt x = true → Gl X x ∧ X.mg x = none) (T : ExcC X.K A fI fl) (hz : Zc cls d oe) (hf : ∃ vs, oe.data = .fields vs) (hN : X.N[i]? = some n) (hv : Vis X.env.scope n) (h1 : (n == ("__debug__" : Str)) = false) (h2 : (n == ("__classdict__" : Str)) = false) :
    ∀ (its : List SI) (es : List Expr), chkSIs lo bt fl n its es = true → PA (X.suite a ((a, oe) :: pn)) es (tSIs X.K a cls d A i its)
  | [], [], _ => pa_nil
  | [], _ :: _, h => by cases h
  | _ :: _, [], h => by cases h
  | s :: r, e :: es, h => by
    have h : (chkSI lo bt fl n s e && chkSIs lo bt fl n r es) = true := h
    rw [Bool.and_eq_true] at h
    exact pa_cons (pe_si hlo hbt T hz hf hN hv h1 h2 s e h.1) (pa_sis hlo hbt T hz hf hN hv h1 h2 r es h.2) (star_si h.1)
end
theorem mem_lookup {fs : List (Str × PV)} {f : Str} {x : PV} (h : fs.lookup f = some x) : (f, x) ∈ fs := by
  induction fs with
  | nil => cases h
  | cons q r ih =>
    obtain ⟨g, y⟩ := q
    rw [List.lookup_cons] at h
    by_cases e : f = g
    · subst e
      simp at h
      subst h
      exact List.mem_cons_self
    · have e2 : (f == g) = false := by simpa using e
      rw [e2] at h
      exact List.mem_cons_of_mem _ (ih h)
section
variable {K : PySem.W.Frag} {mg : Gm} {H : Hp} {fs : List (Str × PV)} {σ : L2.St} {τ : Tau}
theorem si_val (ht : ∀ (j : Nat) (s : Str), j ≠ i → τ[j]? = some (some (.str s)) → σ[j]? = some (some (.str s))) (x : XRel K mg P H M c fs cls d) (hA : cls = .ref A) (hs : σ[i]? = some (some (.ref a))) {s : SI} (hj : ∀ f j, s = .eqw f j → j ≠ i) {y : PV} (h : siVal τ fs s = some y) : ∃ v, R K H y v ∧ ∀ Q : VK, Q v H → tSI K a cls d A i s σ H Q := by
  cases s with
  | int z => cases h; exact ⟨.int z, rfl, fun Q q => q⟩
  | bl z => cases h; exact ⟨.bl z, rfl, fun Q q => q⟩
  | str z => cases h; exact ⟨.str z, rfl, fun Q q => q⟩
  | non => cases h; exact ⟨.non, rfl, fun Q q => q⟩
  | fld f =>
    have hm := mem_lookup (show fs.lookup f = some y from h)
    rcases x.dct with z | ⟨dx, ws, e1, e2, _, e3⟩
    · subst z; cases hm
    · obtain ⟨v, hv, rv⟩ := e3 f y hm
      exact ⟨v, rv, fun Q q => ⟨_, hs, rfl, hA, dx, ws, v, e1, e2, hv, q⟩⟩
  | eqw f j =>
    simp only [siVal] at h
    split at h
    · rename_i s0 e0
      split at h
      · rename_i t0 e4
        cases h
        have h0 := ht j s0 (hj f j rfl) e0
        have hm := mem_lookup e4
        rcases x.dct with z | ⟨dx, ws, e1, e2, _, e3⟩
        · subst z; cases hm
        · obtain ⟨v, hv, rv⟩ := e3 f _ hm
          obtain rfl : v = .str t0 := rv
          have ks : PySem.W.kitOne K (.type "str") (.type "str") = some true := kit_ty (isiB_ok rfl)
          refine ⟨_, rfl, fun Q q => ?_⟩
          refine ⟨_, h0, _, _, _, _, _, rfl, .ty "str", .base (.str s0), ks, true, rfl, ?_⟩
          rw [if_pos rfl]
          refine ⟨_, hs, rfl, hA, dx, ws, _, e1, e2, hv, _, _, _, _, _, rfl, .ty "str", .base (.str t0), ks, true, rfl, ?_⟩
          rw [if_pos rfl]
          refine ⟨_, hs, rfl, hA, dx, ws, _, e1, e2, hv, _, h0, ?_⟩
          refine ⟨rfl, ?_⟩
          have e9 : (decide (V.str t0 = V.str s0) : Bool) = decide (t0 = s0) := by rw [decide_eq_decide]; simp
          rw [e9]
          exact q
      · cases h
    · cases h
theorem sis_val (ht : ∀ (j : Nat) (s : Str), j ≠ i → τ[j]? = some (some (.str s)) → σ[j]? = some (some (.str s))) (x : XRel K mg P H M c fs cls d) (hA : cls = .ref A) (hs : σ[i]? = some (some (.ref a))) : ∀ {its : List SI} {ys : List PV}, (∀ f j, SI.eqw f j ∈ its → j ≠ i) → sisVal τ fs its = some ys → ∃ vs, Rs K H ys vs ∧ ∀ Q : List V → Hp → Prop, Q vs H → tSIs K a cls d A i its σ H Q
  | [], _, _, h => by cases h; exact ⟨[], rfl, fun Q q => q⟩
  | s :: r, ys, hj, h => by
    unfold sisVal at h
    obtain ⟨y, h1, h2⟩ := Option.bind_eq_some_iff.mp h
    obtain ⟨zs, h3, h4⟩ := Option.map_eq_some_iff.mp h2
    subst h4
    obtain ⟨v, rv, hv⟩ := si_val ht x hA hs (fun f j e => hj f j (e ▸ List.mem_cons_self)) h1
    obtain ⟨vs, rvs, hvs⟩ := sis_val ht x hA hs (fun f j e => hj f j (List.mem_cons_of_mem _ e)) h3
    exact ⟨v :: vs, Rs.cons rv rvs, fun Q q => hv _ (hvs _ q)⟩
theorem sis_len : ∀ {its : List SI} {ys : List PV}, sisVal τ fs its = some ys → ys.length = its.length
  | [], _, h => by cases h; rfl
  | s :: r, ys, h => by
    unfold sisVal at h
    obtain ⟨y, h1, h2⟩ := Option.bind_eq_some_iff.mp h
    obtain ⟨zs, h3, h4⟩ := Option.map_eq_some_iff.mp h2
    subst h4
    rw [List.length_cons, List.length_cons, sis_len h3]
end
def tSu (K : PySem.W.Frag) (a : Addr) (cls : Value) (d : Option Addr) (A : Addr) (i : Nat) (tup : Bool) (its : List SI) : TE := if tup = true then tTup (tSIs K a cls d A i its) else match its with
  | [s] => tSI K a cls d A i s
  | _ => fun _ _ _ => False
theorem ws_try {lo : Nat → Str → Bool} {bt : Str → Bool} (hlo : ∀ j y, lo j y = true → X.N[j]? = some y ∧ Vis X.env.scope y ∧ (y == ("__debug__" : Str)) = false ∧ (y == ("__classdict__" : Str)) = false) (hbt : ∀ x, bt x = true → Gl X x ∧ X.mg x = none) {body : List Stmt} {e : Expr} {tup : Bool} {its : List SI} {np rp : Pos} {w : ZWs} (E : ExcAt X.prog X.w X.K X.mg X.base k c fl) (stk : X.stack = X.env :: X.outer) (frm : X.env.frame = some X.env.locals) (nd : X.N.Nodup) (hN : X.N[i]? = some n) (hln : X.env.kindOf n = some .local)
    (hg : Gl X c) (hd : (c == ("__debug__" : Str)) = false) (h1 : (n == ("__debug__" : Str)) = false) (h2 : (n == ("__classdict__" : Str)) = false) (hv : Vis X.env.scope n) (hW : L2N.Takes X W)
    (hb : ∀ (W : L2.WX) (pn : List (Addr × Obj)) (xe : Value → Shared → Prop), L2N.Takes (X.tr pn xe) W → PassesOwn (model X.prog X.w) X.A X.env xe → WSs (X.tr pn xe) W body w) (hs : chkSu lo bt fl n tup its e = true) :
    WS X W (.Try body [.ExceptHandler (some (.Name c np)) (some n) [.Return (some e) rp] pos'] [] [] pos) (wTry c i tup its w) := by
  obtain ⟨A, fI, fd, ps, j, hm, T, hj, F, hbd⟩ := E.ex
  have su : ∀ (a : Addr) (oe : Obj) (cls : Value) (d : Option Addr) (pn : List (Addr × Obj)), Zc cls d oe → (∃ vs, oe.data = .fields vs) → PE (X.suite a ((a, oe) :: pn)) e (tSu X.K a cls d A i tup its) := fun a oe cls d pn hz hf => by
    unfold chkSu at hs
    unfold tSu
    by_cases ht : tup = true
    · rw [if_pos ht] at hs ⊢
      obtain ⟨_, hs⟩ := Bool.and_eq_true_iff.mp hs
      split at hs
      · exact pe_tup (pa_sis hlo hbt T hz hf hN hv h1 h2 _ _ hs)
      · cases hs
    · rw [if_neg ht] at hs ⊢
      split at hs
      · exact pe_si hlo hbt T hz hf hN hv h1 h2 _ _ hs
      · cases hs
  have hlen : tup = true → its.length ≤ 100 := fun ht => by
    unfold chkSu at hs
    rw [if_pos ht] at hs
    exact of_decide_eq_true (Bool.and_eq_true_iff.mp hs).1
  refine PS.imp (L2N.ps_try_as (c := .ref A) (i := i) (tb := fun W => liftS X.K X.mg W w) (ts := fun a cls d => tRet (tSu X.K a cls d A i tup its)) (Wout := W) stk frm nd hN hln ⟨hg, hd, .inl hm⟩ hW hb (fun a oe cls d pn hz hf => pss_one (ps_ret (su a oe cls d pn hz.zc hf)))) fun D σ H h => ?_
  obtain ⟨P, J, nx, τ, M, st, sm, hw, hn, hj⟩ := h
  refine ⟨P, _, nx, τ, M, st, sm, hw, hn, ⟨hj.rt, hj.bk, hj.ct, ?_⟩⟩
  rintro σ' H' τ' l st' c' fs M' cls d H2 l2 sm2 xr ⟨rfl, hi, x, hx, hq⟩
  have hA : cls = .ref A := by
    have := xr.cls
    rw [hm] at this
    exact (Option.some.inj this).symm
  refine ⟨true, by rw [hA]; exact T.te, fun _ a ha => ?_, fun z => nomatch z⟩
  have hsl : (σ'.set i (some (V.ref a)))[i]? = some (some (.ref a)) := by
    rw [List.getElem?_set_self (by rw [st'.1]; exact hi)]
  have hin := chkSu_ne (fun j y h => (hlo j y h).1) hN hs
  have hjs : ∀ (j : Nat) (s : Str), j ≠ i → τ'[j]? = some (some (.str s)) → (σ'.set i (some (V.ref a)))[j]? = some (some (.str s)) := fun j s hne e => by
    rw [List.getElem?_set_ne (fun z => hne z.symm)]
    obtain ⟨v, g1, g2⟩ := st'.2 j _ e
    obtain rfl : v = .str s := g2
    exact g1
  unfold suVal at hx
  obtain ⟨ys, h3, h4⟩ := Option.bind_eq_some_iff.mp hx
  show tSu X.K a cls d A i tup its (σ'.set i (some (.ref a))) H2 D.rt
  unfold tSu
  by_cases ht : tup = true
  · rw [if_pos ht] at h4 ⊢
    cases h4
    obtain ⟨vs, rvs, hvs⟩ := sis_val hjs xr hA hsl hin h3
    have hl := sis_len h3
    have := hlen ht
    refine hvs _ ⟨by rw [rvs.length, hl]; unfold sizeLine; omega, fun p hp => ?_⟩
    exact hj.rt _ _ (.tup ys) M' ((l.trans l2).trans (Le.new hp)) (sm2.new_tup hp) (R.tupNew rvs hp) hq
  · rw [if_neg ht] at h4 ⊢
    cases its with
    | nil => cases h3; cases h4
    | cons s r =>
      cases r with
      | cons _ _ =>
        unfold chkSu at hs
        rw [if_neg ht] at hs
        cases hs
      | nil =>
        unfold sisVal at h3
        obtain ⟨y, h5, h6⟩ := Option.bind_eq_some_iff.mp h3
        cases h6
        cases h4
        obtain ⟨v, rv, hv'⟩ := si_val hjs xr hA hsl (fun f j e => hin f j (e ▸ List.mem_singleton.mpr rfl)) h5
        exact hv' _ (hj.rt _ _ _ M' (l.trans l2) sm2 rv hq)
end
/-! ### a suite that calls -/
def xφ (K : PySem.W.Frag) (d : Addr) (fs : List (Str × PV)) : Hp → Prop := fun H => ∃ ws, H d = some (.xd ws) ∧ ∀ f x, (f, x) ∈ fs → ∃ v, ws.lookup f = some v ∧ R K H x v
/-- what the suite knows of the exception: its object, its dict, what stands there -/
structure XA where
  a : Addr
  d : Addr
  φ : Hp → Prop
  fs : List (Str × PV)
def wFld (i : Nat) (f : Str) (xa : XA) : ZWe := fun _ τ M Q => τ[i]? = some (some (.ref xa.a)) ∧ M xa.d = some (.abs xa.φ [xa.d]) ∧ ∃ x, xa.fs.lookup f = some x ∧ Q x M
def wTryC (c : Str) (i : Nat) (sw : XA → ZWe) (w : ZWs) : ZWs := fun J nx τ M => w { J with ex := fun τ' c' fs M' => c' = c ∧ i < τ'.length ∧ fs ≠ [] ∧ ∀ a d φ, M' d = none → sw ⟨a, d, φ, fs⟩ (fun _ _ _ => False) (τ'.set i (some (.ref a))) (mu M' d (.abs φ [d])) J.rt } nx τ M
theorem SRm.xd {K : PySem.W.Frag} {P H : Hp} {M : Mp} {d : Addr} {fs : List (Str × PV)} (s : SRm K P H M) (hM : M d = none) (hP : P d = none) (h : xφ K d fs H) : SRm K P H (mu M d (.abs (xφ K d fs) [d])) := by
  refine ⟨fun a o e => ?_, fun a φ F e b hb => ?_, fun a o e => ?_⟩
  · by_cases ha : a = d
    · subst ha
      rw [mu_same] at e
      cases e
      refine ⟨h, List.mem_singleton.mpr rfl, ?_, fun H1 H2 l k x => ?_⟩
      · obtain ⟨ws, e, _⟩ := h
        rw [e]; intro z; cases z
      · obtain ⟨ws, e, f⟩ := x
        refine ⟨ws, by rw [k a (List.mem_singleton.mpr rfl)]; exact e, fun f' x' hm => ?_⟩
        obtain ⟨v, h1, h2⟩ := f f' x' hm
        exact ⟨v, h1, R.mono l _ _ h2⟩
    · rw [mu_ne ha] at e
      exact s.ok a o e
  · by_cases ha : a = d
    · subst ha
      rw [mu_same] at e
      cases e
      exact .inl (List.mem_singleton.mp hb)
    · rw [mu_ne ha] at e
      rcases s.own a φ F e b hb with z | z
      · exact .inl z
      · refine .inr ?_
        have : b ≠ d := fun y => by rw [y, hM] at z; cases z
        rw [mu_ne this]; exact z
  · obtain ⟨h1, h2⟩ := s.pin a o e
    have : a ≠ d := fun y => by rw [y, hP] at e; cases e
    exact ⟨h1, by rw [mu_ne this]; exact h2⟩
section
variable {X : Cx} {c n : Str} {fl : List Str} {k m : Nat} {w : ZWs} {p pos pos' rp np : Pos} {a A fI : Addr} {oe : Obj} {cls : Value} {d : Option Addr} {pn : List (Addr × Obj)} {i : Nat} {e : Expr} {body : List Stmt}
theorem we_xf {f : Str} {d0 : Addr} {fs : List (Str × PV)} (T : ExcC X.K A fI fl) (hz : Zc cls d oe) (hf : ∃ vs, oe.data = .fields vs) (hN : X.N[i]? = some n) (hv : Vis X.env.scope n) (h1 : (n == ("__debug__" : Str)) = false) (h2 : (n == ("__classdict__" : Str)) = false)
    (hfl : f ∈ fl) (hd : d = some d0) (hA : cls = .ref A) : WE (X.suite a ((a, oe) :: pn)) (fun _ _ _ _ => False) (.Attribute (.Name n p) f pos) (wFld i f ⟨a, d0, xφ X.K d0 fs, fs⟩) :=
  PE.imp (pe_xf T.xf (T.no _ hfl) hz hf (pe_var (X := X.suite a ((a, oe) :: pn)) hN hv h1 h2) rfl) fun σ H Q h => by
    obtain ⟨P, E, τ, M, Q', st, sm, ⟨ht, hM, x, hx, hq⟩, hc, hE⟩ := h
    obtain ⟨v, hs, rv⟩ := st.2 i _ ht
    obtain rfl : v = .ref a := rv
    obtain ⟨⟨ws, e1, e2⟩, _⟩ := sm.ok _ _ hM
    obtain ⟨u, hu, ru⟩ := e2 f x (mem_lookup hx)
    exact ⟨_, hs, rfl, hA, d0, ws, u, hd, e1, hu, hc.now sm ru hq⟩
theorem hot_suite (hz : L2N.Zn cls d oe) (hf : ∃ vs, oe.data = .fields vs) : L2H.HotC (X.suite a ((a, oe) :: pn)) := by
  obtain ⟨vs, hd⟩ := hf
  exact ⟨(a, oe), ⟨rfl, vs, hd, hz.2.2 vs hd⟩, List.mem_cons_self⟩
theorem ws_tryC {W : L2.WX} {sw : XA → ZWe} (E : ExcAt X.prog X.w X.K X.mg X.base k c fl) (stk : X.stack = X.env :: X.outer) (frm : X.env.frame = some X.env.locals) (nd : X.N.Nodup) (hN : X.N[i]? = some n) (hln : X.env.kindOf n = some .local)
    (hg : Gl X c) (hd : (c == ("__debug__" : Str)) = false) (hW : L2N.Takes X W)
    (hb : ∀ (W : L2.WX) (pn : List (Addr × Obj)) (xe : Value → Shared → Prop), L2N.Takes (X.tr pn xe) W → PassesOwn (model X.prog X.w) X.A X.env xe → WSs (X.tr pn xe) W body w)
    (hsw : ∀ (A fI : Addr), ExcC X.K A fI fl → ∀ (a : Addr) (oe : Obj) (d0 : Addr) (pn : List (Addr × Obj)) (fs : List (Str × PV)), L2N.Zn (.ref A) (some d0) oe → (∃ vs, oe.data = .fields vs) → L2H.HotC (X.suite a ((a, oe) :: pn)) → WE (X.suite a ((a, oe) :: pn)) (fun _ _ _ _ => False) e (sw ⟨a, d0, xφ X.K d0 fs, fs⟩)) :
    WS X W (.Try body [.ExceptHandler (some (.Name c np)) (some n) [.Return (some e) rp] pos'] [] [] pos) (wTryC c i sw w) := by
  obtain ⟨A, fI, fd, ps, j, hm, T, hj, F, hbd⟩ := E.ex
  let tE : Addr → Value → Option Addr → TE := fun a cls d σ H Q => ∃ d0 fs, cls = .ref A ∧ d = some d0 ∧ lift X.K X.mg (fun _ _ _ _ => False) (sw ⟨a, d0, xφ X.K d0 fs, fs⟩) σ H Q
  have su : ∀ (a : Addr) (oe : Obj) (cls : Value) (d : Option Addr) (pn : List (Addr × Obj)), L2N.Zn cls d oe → (∃ vs, oe.data = .fields vs) → PE (X.suite a ((a, oe) :: pn)) e (tE a cls d) := fun a oe cls d pn hz hf => by
    refine ⟨fun pins s σ H Q I h => ?_⟩
    obtain ⟨d0, fs, rfl, rfl, h⟩ := h
    exact (hsw A fI T a oe d0 pn fs hz hf (hot_suite hz hf)).run pins s σ H Q I h
  refine PS.imp (L2N.ps_try_as (c := .ref A) (i := i) (tb := fun W => liftS X.K X.mg W w) (ts := fun a cls d => tRet (tE a cls d)) (Wout := W) stk frm nd hN hln ⟨hg, hd, .inl hm⟩ hW hb (fun a oe cls d pn hz hf => pss_one (ps_ret (su a oe cls d pn hz hf)))) fun D σ H h => ?_
  obtain ⟨P, J, nx, τ, M, st, sm, hw, hn, hj⟩ := h
  refine ⟨P, _, nx, τ, M, st, sm, hw, hn, ⟨hj.rt, hj.bk, hj.ct, ?_⟩⟩
  rintro σ' H' τ' l st' c' fs M' cls d H2 l2 sm2 xr ⟨rfl, hi, hne, hq⟩
  have hA : cls = .ref A := by
    have := xr.cls
    rw [hm] at this
    exact (Option.some.inj this).symm
  refine ⟨true, by rw [hA]; exact T.te, fun _ a ha => ?_, fun z => nomatch z⟩
  rcases xr.dct with z | ⟨dx, ws, e1, e2, ⟨e3, e4⟩, e5⟩
  · exact absurd z hne
  have hq := hq a dx (xφ X.K dx fs) e3
  show ∃ d0 fs, _
  refine ⟨dx, fs, hA, e1, P, _, _, _, _, (st'.mono l2).set (show R X.K H2 (.ref a) (.ref a) from rfl), sm2.xd e3 e4 ⟨ws, e2, e5⟩, hq, hj.rt.mono (l.trans l2), fun c fs M' cls d H' l s x z => z.elim⟩
end
/-! ### __init__ of an own exception, of one field, of two -/
section
variable {P : Program} {w : World} {K : PySem.W.Frag} {mg : Gm} {base : Heap} {x qual : Str} {st : Stmt} {C fI : Addr} {fd : FuncData} {f g s y z : Str} {p1 p2 p3 p4 q1 q2 q3 q4 : Pos}
def nmB (sc : Scope) (y : Str) : Bool := (match sc.names.lookup y with | some .local => true | _ => false) && !(y == ("__debug__" : Str)) && !(y == ("__classdict__" : Str))
theorem nmB_of {sc : Scope} {y : Str} (h : nmB sc y = true) : Vis sc y ∧ (y == ("__debug__" : Str)) = false ∧ (y == ("__classdict__" : Str)) = false := by
  unfold nmB at h
  rw [Bool.and_eq_true, Bool.and_eq_true] at h
  obtain ⟨⟨h1, h2⟩, h3⟩ := h
  refine ⟨?_, by simpa using h2, by simpa using h3⟩
  split at h1
  · rename_i e; exact .inl e
  · cases h1
theorem init1 (F : L2.Fun K x qual st fI fd) (S : FnScope [s, y] [s, y] (defScope st)) (hbd : defBody st = [.Assign [.Attribute (.Name s p1) f p2] (.Name y p3) p4]) (T : ExcC K C fI [f]) (h1 : nmB (defScope st) s = true) (h2 : nmB (defScope st) y = true) :
    FnOk P w K mg base (L2N.CX P w) 1 fI fd [s, y] (spInit C [f]) := by
  obtain ⟨v1, a1, b1⟩ := nmB_of h1
  obtain ⟨v2, a2, b2⟩ := nmB_of h2
  refine okN F S (fun vs H Q E h => ?_) fun cdv A outer s0 H vs Q E hr h => ?_
  · obtain ⟨a, ys, rfl, hl, _⟩ := h
    rw [List.length_cons, hl]; rfl
  · obtain ⟨a, ys, rfl, hl, ha, hq⟩ := h
    obtain ⟨u, rfl⟩ : ∃ u, ys = [u] := by
      cases ys with
      | nil => cases hl
      | cons u r => cases r with
        | nil => exact ⟨u, rfl⟩
        | cons _ _ => cases hl
    rw [hbd]
    refine ⟨_, pss_one (ps_ost (pe_var (i := 0) rfl v1 a1 b1) (pe_var (i := 1) rfl v2 a2 b2)), ?_⟩
    refine ⟨u, rfl, .ref a, rfl, a, C, rfl, T.ox, T.no f List.mem_cons_self, .inl ⟨ha, fun d hd hda => ?_⟩⟩
    refine hq d _ [(f, u)] hd hda upd_same (by rw [upd_ne hda, upd_same]) (fun f' y' hm => ?_) fun b hb1 hb2 => by rw [upd_ne hb1, upd_ne hb2]
    have hm := List.mem_singleton.mp hm
    cases hm
    simp
theorem init2 (F : L2.Fun K x qual st fI fd) (S : FnScope [s, y, z] [s, y, z] (defScope st)) (hbd : defBody st = [.Assign [.Attribute (.Name s p1) f p2] (.Name y p3) p4, .Assign [.Attribute (.Name s q1) g q2] (.Name z q3) q4]) (T : ExcC K C fI [f, g]) (hfg : f ≠ g)
    (h1 : nmB (defScope st) s = true) (h2 : nmB (defScope st) y = true) (h3 : nmB (defScope st) z = true) :
    FnOk P w K mg base (L2N.CX P w) 1 fI fd [s, y, z] (spInit C [f, g]) := by
  obtain ⟨v1, a1, b1⟩ := nmB_of h1
  obtain ⟨v2, a2, b2⟩ := nmB_of h2
  obtain ⟨v3, a3, b3⟩ := nmB_of h3
  refine okN F S (fun vs H Q E h => ?_) fun cdv A outer s0 H vs Q E hr h => ?_
  · obtain ⟨a, ys, rfl, hl, _⟩ := h
    rw [List.length_cons, hl]; rfl
  · obtain ⟨a, ys, rfl, hl, ha, hq⟩ := h
    obtain ⟨u, v, rfl⟩ : ∃ u v, ys = [u, v] := by
      cases ys with
      | nil => cases hl
      | cons u r => cases r with
        | nil => cases hl
        | cons v r => cases r with
          | nil => exact ⟨u, v, rfl⟩
          | cons _ _ => cases hl
    rw [hbd]
    refine ⟨_, pss_cons (ps_ost (pe_var (i := 0) rfl v1 a1 b1) (pe_var (i := 1) rfl v2 a2 b2)) (pss_one (ps_ost (pe_var (i := 0) rfl v1 a1 b1) (pe_var (i := 2) rfl v3 a3 b3))), ?_⟩
    refine ⟨u, rfl, .ref a, rfl, a, C, rfl, T.ox, T.no f List.mem_cons_self, .inl ⟨ha, fun d hd hda => ?_⟩⟩
    refine ⟨v, rfl, .ref a, rfl, a, C, rfl, T.ox, T.no g (List.mem_cons_of_mem _ List.mem_cons_self), .inr ⟨d, [(f, u)], upd_same, by rw [upd_ne hda, upd_same], Nat.le_of_ble_eq_true rfl, ?_⟩⟩
    refine hq d _ [(g, v), (f, u)] hd hda (by rw [upd_ne (Ne.symm hda), upd_same]) upd_same (fun f' y' hm => ?_) fun b hb1 hb2 => by rw [upd_ne hb2, upd_ne hb1, upd_ne hb2]
    rcases List.mem_cons.mp hm with hm | hm
    · cases hm
      have : (f == g) = false := by simpa using hfg
      simp [List.lookup, this]
    · have hm := List.mem_singleton.mp hm
      cases hm
      simp [List.lookup]
end
end Zd

set_option Elab.async false
set_option linter.all false
set_option maxRecDepth 100000
set_option maxHeartbeats 4000000
/-! Zd 24: any, all of numbers; sorted(rows, reverse) by the first; reversed; list(range); x[::-1]. -/
namespace Zd
open PySem PySem.Spec PyProof.Rows L2

/-! ### any, all: numbers and truth values -/
inductive Fl where
  | i (n : Int) | b (x : Bool)
def Fl.v : Fl → V
  | .i n => .int n
  | .b x => .bl x
def Fl.d : Fl → PyData
  | .i n => .int n
  | .b x => .bool x
def Fl.t : Fl → Bool
  | .i n => n != 0
  | .b x => x
def Fl.p : Fl → PV
  | .i n => .int n
  | .b x => .bl x
theorem reads_fl {h : Heap} : ∀ {fs : List Fl} {us : List Value}, Vals (fs.map Fl.v) us → ReadsAll h us (fs.map Fl.d) []
  | [], us, r => by cases r; exact .nil
  | f :: fs, us, r => by
    cases r with
    | cons r1 rr =>
      have ih := reads_fl (h := h) rr
      cases f with
      | i n =>
        obtain ⟨t, rfl⟩ := r1
        exact ReadsAll.cons (as := []) (.int n t) ih
      | b x =>
        obtain rfl : _ = Value.bool x := r1
        exact ReadsAll.cons (as := []) (.bool x) ih
theorem fl_plain : ∀ fs : List Fl, PyData.plainAll (fs.map Fl.d) = true
  | [] => rfl
  | f :: fs => by
    rw [List.map_cons, PyData.plainAll, fl_plain fs]
    cases f <;> rfl
theorem fl_fits (fs : List Fl) : ∀ x ∈ fs.map Fl.d, x.fits63 := fun x hx => by
  obtain ⟨f, _, rfl⟩ := List.mem_map.mp hx
  cases f <;> trivial
theorem fl_any (fs : List Fl) : (fs.map Fl.d).any PyData.truthy = fs.any Fl.t := by
  rw [List.any_map]; congr 1; funext f; cases f <;> rfl
theorem fl_all (fs : List Fl) : (fs.map Fl.d).all PyData.truthy = fs.all Fl.t := by
  rw [List.all_map]; congr 1; funext f; cases f <;> rfl
def rAnyF (K : PySem.W.Frag) (f : List Fl → Bool) : List V → Hp → VK → Prop := fun vs H Q => ∃ (a : Addr) (fs : List Fl), vs = [V.ref a] ∧ (SqL K H a (fs.map Fl.v) ∨ SqT K H a (fs.map Fl.v)) ∧ Q (.bl (f fs)) H
section
variable {X : Cx}
theorem cr_anyF (hc : X.calm = true) : CallR X (.builtin "any") (rAnyF X.K fun fs => fs.any Fl.t) := by
  intro pins s σ H vs us Q I r h
  obtain ⟨a, fs, rfl, hs, q⟩ := h
  rw [Vals.ref1 r]
  rcases hs with hs | hs
  · obtain ⟨its, rv, hl, _⟩ := I.list hs
    refine PySem.W.any_list_data (I.ok.hd hc) hl.isList (by simpa using reads_fl rv) (fl_plain fs) (fl_fits fs) fun h' tk hk => ?_
    rw [fl_any]
    exact ⟨.bl _, H, I.kept hk, rfl, q⟩
  · obtain ⟨its, rv, hl, _⟩ := I.tuple hs
    refine PySem.W.any_tuple_data (I.ok.hd hc) hl (by simpa using reads_fl rv) (fl_plain fs) (fl_fits fs) fun h' tk hk => ?_
    rw [fl_any]
    exact ⟨.bl _, H, I.kept hk, rfl, q⟩
theorem cr_allF (hc : X.calm = true) : CallR X (.builtin "all") (rAnyF X.K fun fs => fs.all Fl.t) := by
  intro pins s σ H vs us Q I r h
  obtain ⟨a, fs, rfl, hs, q⟩ := h
  rw [Vals.ref1 r]
  rcases hs with hs | hs
  · obtain ⟨its, rv, hl, _⟩ := I.list hs
    refine PySem.W.all_list_data (I.ok.hd hc) hl.isList (by simpa using reads_fl rv) (fl_plain fs) (fl_fits fs) fun h' tk hk => ?_
    rw [fl_all]
    exact ⟨.bl _, H, I.kept hk, rfl, q⟩
  · obtain ⟨its, rv, hl, _⟩ := I.tuple hs
    refine PySem.W.all_tuple_data (I.ok.hd hc) hl (by simpa using reads_fl rv) (fl_plain fs) (fl_fits fs) fun h' tk hk => ?_
    rw [fl_all]
    exact ⟨.bl _, H, I.kept hk, rfl, q⟩
end
def zfls : List PV → Option (List Fl)
  | [] => some []
  | .int i :: r => (zfls r).map (.i i :: ·)
  | .bl i :: r => (zfls r).map (.b i :: ·)
  | _ :: _ => none
theorem zfls_of : ∀ {xs : List PV} {fs : List Fl}, zfls xs = some fs → xs = fs.map Fl.p
  | [], fs, h => by cases h; rfl
  | x :: r, fs, h => by
    unfold zfls at h
    split at h
    · rename_i e; cases e
    · rename_i e; cases e
      cases e2 : zfls r with
      | none => rw [e2] at h; cases h
      | some qs => rw [e2] at h; cases h; rw [zfls_of e2]; rfl
    · rename_i e; cases e
      cases e2 : zfls r with
      | none => rw [e2] at h; cases h
      | some qs => rw [e2] at h; cases h; rw [zfls_of e2]; rfl
    · cases h
theorem zfls_map : ∀ fs : List Fl, zfls (fs.map Fl.p) = some fs
  | [] => rfl
  | .i n :: fs => by rw [List.map_cons]; show (zfls (fs.map Fl.p)).map _ = _; rw [zfls_map fs]; rfl
  | .b n :: fs => by rw [List.map_cons]; show (zfls (fs.map Fl.p)).map _ = _; rw [zfls_map fs]; rfl
theorem rs_fl {K : PySem.W.Frag} {H : Hp} : ∀ {fs : List Fl} {vs : List V}, Rs K H (fs.map Fl.p) vs → vs = fs.map Fl.v
  | [], vs, h => h
  | f :: fs, vs, h => by
    obtain ⟨v, ws, rfl, r1, r2⟩ := h
    rw [rs_fl r2]
    cases f with
    | i n => have e : v = .int n := r1; rw [e]; rfl
    | b n => have e : v = .bl n := r1; rw [e]; rfl
def flP (f : List Fl → Bool) (xs : List PV) (M : Mp) (Q : ZQ) : Prop := match xs with
  | [x] => match (seqOf x M).bind zfls with
    | some fs => Q (.bl (f fs)) M
    | none => False
  | _ => False
theorem cz_fl {K : PySem.W.Frag} {f : List Fl → Bool} : CallZ K (rAnyF K f) (flP f) := fun xs vs H M Q' Q sm rx q k => by
  unfold flP at q
  split at q
  · rename_i x
    obtain ⟨v, rfl, r⟩ := Rs.of1 rx
    split at q
    · rename_i fs e
      cases e1 : seqOf x M with
      | none => rw [e1] at e; cases e
      | some ys =>
        rw [e1] at e
        have e2 := zfls_of (show zfls ys = some fs from e)
        subst e2
        cases x with
        | tup zs =>
          cases e1
          obtain ⟨a, ws, rfl, sa, ra⟩ := r
          rw [rs_fl ra] at sa
          exact ⟨a, fs, rfl, .inr sa, k.now (x := .bl _) sm rfl q⟩
        | ref p =>
          obtain rfl := R.of_ref r
          obtain ⟨ws, sa, ra⟩ := sm.lget e1
          rw [rs_fl ra] at sa
          exact ⟨p, fs, rfl, .inl sa, k.now (x := .bl _) sm rfl q⟩
        | _ => cases e1
    · exact q.elim
  · exact q.elim
end Zd

set_option Elab.async false
set_option linter.all false
set_option maxRecDepth 100000
set_option maxHeartbeats 4000000
/-! Zd 25: sorted(rows, reverse = b): rows that begin with unlike ints. -/
namespace Zd
open PySem PySem.Spec PyProof.Rows L2

/-- v is a tuple of an int and one more -/
def Tag2 (h : Heap) (v : Value) (x : Int) : Prop := ∃ a o t u n, v = .ref a ∧ h.get? a = some o ∧ o.cls = .type "tuple" ∧ o.data = .seq #[.int x t, u] n
theorem Tag2.keeps {h h' : Heap} {v : Value} {x : Int} (p : Tag2 h v x) (k : ∀ b o, h.get? b = some o → o.cls = .type "tuple" → h'.get? b = some o) : Tag2 h' v x := by
  obtain ⟨a, o, t, u, n, rfl, q1, q2, q3⟩ := p
  exact ⟨a, o, t, u, n, rfl, k _ _ q1 q2, q2, q3⟩
section
variable {prog : Program} {w : World} {A : Around} {E : Value → Shared → Prop} {s : Shared}
abbrev ltT (k : Value → Int) (v u : Value) : Bool := decide (k v < k u)
theorem ltT_swo (k : Value → Int) : SrtO.Swo (ltT k) := by
  refine ⟨fun x y h => ?_, fun x y z h1 h2 => ?_⟩
  · have a := of_decide_eq_true h
    exact decide_eq_false (by omega)
  · have a := of_decide_eq_false h1
    have b := of_decide_eq_false h2
    exact decide_eq_false (by omega)
theorem tag_cmp {vs : List Value} {k : Value → Int} (hp : ∀ v ∈ vs, Tag2 s.heap v (k v)) (hi : ∀ v ∈ vs, ∀ u ∈ vs, k v = k u → v = u) : SrtO.Cmp prog w A s (tuples' true) (fun p => p.1 ∈ vs) (SrtO.lt2 (ltT k)) := by
  intro p q hm hm'
  have g1 := hp _ hm
  have g2 := hp _ hm'
  have g3 := hi _ hm _ hm'
  show wpAny (model prog w) A (keyLt' (tuples' true) p.1 q.1) (fun r s' => s' = s ∧ r = decide (k p.1 < k q.1)) (fun _ _ => False) s
  generalize k p.1 = x at g1 g3 ⊢
  generalize k q.1 = y at g2 g3 ⊢
  generalize p.1 = v1 at g1 g3 ⊢
  generalize q.1 = v2 at g2 g3 ⊢
  obtain ⟨a, o, t, u, n, rfl, ho, _, hd⟩ := g1
  obtain ⟨a', o', t', u', n', rfl, ho', _, hd'⟩ := g2
  refine PySem.W.kat_lt ho hd ho' hd' ?_
  show PySem.W.KatLex prog w A true (decide (2 < 2)) _ [(.int x t, .int y t'), (u, u')] 0 s
  refine PySem.W.kat_cons (SeqAt.EqAt.int_int x t y t' prog w _ _ ?_)
  refine PySem.W.kat_go (fun c => ?_) (fun c => ?_)
  · have c : x = y := by simpa using c
    have ea := g3 c
    cases ea
    rw [ho] at ho'
    cases ho'
    rw [hd] at hd'
    have eu : u = u' := by
      injection hd' with z _
      have z := congrArg Array.toList z
      simp at z
      exact z.2
    subst eu
    have lf : decide (x < y) = false := decide_eq_false (by omega)
    exact PySem.W.kat_yes (PySem.W.kat_cons (SeqAt.EqAt.same u prog w _ _ (PySem.W.kat_yes (PySem.W.kat_nil ⟨rfl, lf.symm⟩))))
  · exact PySem.W.kat_no (oneLt_int ⟨rfl, rfl⟩)
theorem tag_firsts {h : Heap} : ∀ {vs : List Value}, (∀ v ∈ vs, ∃ x, Tag2 h v x) → ∃ fs : List Value, PySem.W.KatTups h vs fs ∧ fs.length = vs.length ∧ ∀ f ∈ fs, ∃ x t, f = Value.int x t
  | [], _ => ⟨[], PySem.W.KatTups.nil, rfl, fun _ z => (nomatch z)⟩
  | v :: vs, hp => by
    obtain ⟨fs, g1, g2, g3⟩ := tag_firsts (vs := vs) fun u hu => hp u (List.mem_cons_of_mem _ hu)
    obtain ⟨x, a, o, t, u, n, rfl, ho, hc, hd⟩ := hp v List.mem_cons_self
    refine ⟨.int x t :: fs, PySem.W.KatTups.cons ho hc hd rfl g1, by simp [g2], fun f hf => ?_⟩
    rcases List.mem_cons.mp hf with z | z
    · exact ⟨x, t, z⟩
    · exact g3 f z
theorem tag_sortable {a : Addr} {vs : List Value} {k : Value → Int} (h0 : 0 < vs.length) (hp : ∀ v ∈ vs, Tag2 s.heap v (k v)) (hi : ∀ v ∈ vs, ∀ u ∈ vs, k v = k u → v = u) (ha : ∀ o, s.heap.get? a = some o → o.cls ≠ .type "tuple") : SrtO.SortableO prog w A s a vs (ltT k) := by
  intro h' keep
  have hp' : ∀ v ∈ vs, Tag2 h' v (k v) := fun v hv => (hp v hv).keeps fun b o e c => keep b o (fun z => by subst z; exact ha o e c) e
  obtain ⟨fs, g1, g2, g3⟩ := tag_firsts fun v hv => ⟨_, hp' v hv⟩
  refine ⟨tuples' true, fun Q E hq => PySem.W.kat_kind (T := .type "int") g1 (by omega) (fun f hf => ?_) (by rfl) ?_, tag_cmp hp' hi⟩
  · obtain ⟨x, t, rfl⟩ := g3 f hf
    exact PySem.W.Looks.now
  · rw [show (Value.type "int" != Value.type "tuple") = true by first | decide +kernel | rfl | decide]
    exact hq
end
/-- x is a tuple of i and one more -/
def TagV (K : PySem.W.Frag) (H : Hp) (x : V) (i : Int) : Prop := ∃ t y, x = V.ref t ∧ SqT K H t [.int i, y]
def rSortedTag (K : PySem.W.Frag) (b : Bool) : List V → List V → Hp → VK → Prop := fun vs zs H Q => ∃ (a : Addr) (xs : List V) (k : V → Int), vs = [V.ref a] ∧ zs = [.bl b] ∧ SqL K H a xs ∧ (∀ x ∈ xs, TagV K H x (k x)) ∧ (∀ x ∈ xs, ∀ y ∈ xs, k x = k y → x = y) ∧
  ∀ (ys : List V) (p : Addr), ys.Perm xs → (if b = true then ys.Pairwise (fun x y => k y ≤ k x) else ys.Pairwise (fun x y => k x ≤ k y)) → H p = none → Q (.ref p) (upd H p (.lst ys))
section
variable {X : Cx}
theorem cr_sortedTag {b : Bool} : CallRK X (.builtin "sorted") [Str.ofString "reverse"] (rSortedTag X.K b) := by
  intro pins s σ H vs zs us ws Q I r rz h
  obtain ⟨a, xs, k, rfl, rfl, hs, hx, hi, q⟩ := h
  obtain rfl := Vals.ref1 r
  obtain ⟨w1, rfl, e1⟩ := vals1 rz
  obtain rfl : w1 = Value.bool b := e1
  obtain ⟨its, rv, hl, hz⟩ := I.list hs
  obtain ⟨e1, e2⟩ := refs_back rv fun x m => by
    obtain ⟨t, _, e, _⟩ := hx x m
    exact ⟨t, e⟩
  have inj : ∀ v ∈ its, ∀ u ∈ its, backV v = backV u → v = u := fun v hv u hu e => by
    obtain ⟨a1, rfl⟩ := e2 v hv
    obtain ⟨a2, rfl⟩ := e2 u hu
    have e : V.ref a1 = V.ref a2 := e
    cases e
    rfl
  have mem : ∀ v ∈ its, backV v ∈ xs := fun v hv => by rw [e1]; exact List.mem_map.mpr ⟨_, hv, rfl⟩
  have tag : ∀ v ∈ its, Tag2 s.heap v (k (backV v)) := fun v hv => by
    have hm := mem v hv
    obtain ⟨t, rfl⟩ := e2 v hv
    obtain ⟨t', y, e, ht⟩ := hx _ hm
    have e : V.ref t = V.ref t' := e
    cases e
    obtain ⟨its2, r2, ⟨o, ho, hc, n, hd⟩, _⟩ := I.tuple ht
    obtain ⟨u1, u2, rfl, ri, rj⟩ := vals2 r2
    obtain ⟨t1, rfl⟩ := ri
    exact ⟨t, o, t1, u2, n, rfl, ho, hc, hd⟩
  refine SrtR.sorted_ordK (b := b) (fun _ => rfl) (PyProof.Rows.args_sorted_rev _ _) (fun _ => PyProof.Rows.args_list_sort_rev _ _) (ltT_swo fun v => k (backV v)) hl.isList (by rw [← rv.length]; exact hz) (fun h2 h₁ a' ha kk => ?_) fun out hsr hb => ?_
  · refine tag_sortable (s := { s with heap := h₁ }) (by omega) (fun v hm => (tag v hm).keeps fun b o e _ => (kk b o e).2) (fun v hv u hu e => inj v hv u hu (hi _ (mem v hv) _ (mem u hu) e)) fun o e => ?_
    have e' : some o = some (seqObj "list" its.toArray 0) := e.symm.trans ha
    cases e'
    intro c
    exact absurd (Value.type.inj c) (by decide)
  · have hperm : out.Perm its := by
      have := hb.perm
      cases b with
      | true => exact this.trans (List.reverse_perm _)
      | false => exact this
    have h3 : ∀ u ∈ out, ∃ a, u = Value.ref a := fun u hu => e2 u (hperm.mem_iff.mp hu)
    have asc : (out.map backV).Pairwise (fun x y => k x ≤ k y) := by
      rw [List.pairwise_map]
      refine List.Pairwise.imp (R := fun x y => ltT (fun v => k (backV v)) y x = false) (fun {x y} h => ?_) hsr
      have : ¬ k (backV y) < k (backV x) := of_decide_eq_false h
      show k (backV x) ≤ k (backV y)
      omega
    have pm : (out.map backV).Perm xs := by rw [e1]; exact hperm.map _
    obtain ⟨n, hn⟩ := sortedAll_at s.heap its (if b = true then out.toArray.reverse else out.toArray)
    have kp : ∀ b' o, s.heap.get? b' = some o → (sortedAll s.heap its (if b = true then out.toArray.reverse else out.toArray)).get? b' = some o := fun _ _ e => sortedAll_old e
    cases b with
    | true =>
      have ea : (if true = true then out.toArray.reverse else out.toArray) = out.reverse.toArray := by simp
      rw [ea] at hn kp ⊢
      have pm2 : (out.reverse.map backV).Perm xs := ((List.reverse_perm out).map _).trans pm
      have hlen : (out.reverse.map backV).length ≤ sizeLine := by rw [pm2.length_eq]; exact hz
      refine ⟨.ref _, upd H (s.heap.objs.size + 1) (.lst (out.reverse.map backV)), I.laid (t' := s.toks) kp (Nat.le_succ _) ⟨hlen, out.reverse, n, vals_back (fun u hu => h3 u (List.mem_reverse.mp hu)), hn⟩, rfl, q _ _ pm2 ?_ (I.hok.fresh (Nat.le_succ _))⟩
      rw [if_pos rfl, List.map_reverse, List.pairwise_reverse]
      exact asc
    | false =>
      have ea : (if false = true then out.toArray.reverse else out.toArray) = out.toArray := if_neg (by decide)
      rw [ea] at hn kp ⊢
      have hlen : (out.map backV).length ≤ sizeLine := by rw [pm.length_eq]; exact hz
      refine ⟨.ref _, upd H (s.heap.objs.size + 1) (.lst (out.map backV)), I.laid (t' := s.toks) kp (Nat.le_succ _) ⟨hlen, out, n, vals_back h3, hn⟩, rfl, q _ _ pm ?_ (I.hok.fresh (Nat.le_succ _))⟩
      rw [if_neg (by decide)]
      exact asc
end
/-! lifted -/
abbrev tagP (q : Int × PV) : PV := .tup [.int q.1, q.2]
def ztags : List PV → Option (List (Int × PV))
  | [] => some []
  | .tup [.int i, y] :: r => (ztags r).map ((i, y) :: ·)
  | _ :: _ => none
theorem ztags_map : ∀ ps : List (Int × PV), ztags (ps.map tagP) = some ps
  | [] => rfl
  | p :: r => by
    show (ztags (r.map tagP)).map (p :: ·) = _
    rw [ztags_map r]; rfl
theorem ztags_of : ∀ {xs : List PV} {ps : List (Int × PV)}, ztags xs = some ps → xs = ps.map tagP
  | [], ps, h => by cases h; rfl
  | x :: r, ps, h => by
    unfold ztags at h
    split at h
    · rename_i e; cases e
    · rename_i i j r' e
      cases e
      cases e2 : ztags r with
      | none => rw [e2] at h; cases h
      | some qs => rw [e2] at h; cases h; rw [ztags_of e2]; rfl
    · cases h
theorem rs_paired {K : PySem.W.Frag} {H : Hp} : ∀ {xs : List PV} {vs : List V}, Rs K H xs vs → Paired (fun v x => R K H x v) vs xs
  | [], vs, h => by have e : vs = [] := h; subst e; exact .nil
  | x :: xs, vs, h => by
    obtain ⟨v, ws, rfl, r1, r2⟩ := h
    exact .cons r1 (rs_paired r2)
theorem paired_rs {K : PySem.W.Frag} {H : Hp} {xs : List PV} {vs : List V} (h : Paired (fun v x => R K H x v) vs xs) : Rs K H xs vs := by
  induction h with
  | nil => rfl
  | cons a _ ih => exact ⟨_, _, rfl, a, ih⟩
theorem paired_perm {α β : Type} {r : α → β → Prop} {xs zs : List α} (hp : zs.Perm xs) : ∀ {ys : List β}, Paired r xs ys → ∃ ws : List β, ws.Perm ys ∧ Paired r zs ws := by
  induction hp with
  | nil => intro ys h; cases h; exact ⟨[], List.Perm.refl _, .nil⟩
  | cons x _ ih =>
    intro ys h
    cases h with
    | cons a t =>
      obtain ⟨ws, h1, h2⟩ := ih t
      exact ⟨_ :: ws, h1.cons _, .cons a h2⟩
  | swap x y l =>
    intro ys h
    cases h with
    | cons a t => cases t with
      | cons b t => exact ⟨_, List.Perm.swap _ _ _, .cons b (.cons a t)⟩
  | trans _ _ ih1 ih2 =>
    intro ys h
    obtain ⟨ws, h1, h2⟩ := ih2 h
    obtain ⟨us, h3, h4⟩ := ih1 h2
    exact ⟨us, h3.trans h1, h4⟩
theorem tag_key {K : PySem.W.Frag} {H : Hp} {v : V} {p : Int × PV} (r : R K H (tagP p) v) : TagV K H v p.1 := by
  obtain ⟨t, us, rfl, s, ru⟩ := r
  obtain ⟨u, w, rfl, q1, q2⟩ := Rs.of2 ru
  obtain rfl := R.of_int q1
  exact ⟨t, w, rfl, s⟩
abbrev RTag (K : PySem.W.Frag) (H : Hp) (v : V) (q : Int × PV) : Prop := R K H (tagP q) v
def OrdT (b : Bool) (ps : List (Int × PV)) : Prop := if b = true then ps.Pairwise (fun x y => y.1 ≤ x.1) else ps.Pairwise (fun x y => x.1 ≤ y.1)
def rSortedTg (K : PySem.W.Frag) : List V → List V → Hp → VK → Prop := fun vs zs H Q => ∃ (b : Bool) (a : Addr) (xs : List V) (ps : List (Int × PV)), vs = [V.ref a] ∧ zs = [.bl b] ∧ SqL K H a xs ∧ Paired (RTag K H) xs ps ∧ (ps.map (·.1)).Nodup ∧
  ∀ (ys : List V) (ps' : List (Int × PV)) (p : Addr), Paired (RTag K H) ys ps' → ps'.Perm ps → OrdT b ps' → H p = none → Q (.ref p) (upd H p (.lst ys))
theorem nodup_ne {α : Type} {k : α → Int} {l : List α} (h : (l.map k).Nodup) : ∀ x ∈ l, ∀ y ∈ l, k x = k y → x = y := by
  have h' := List.pairwise_map.mp h
  clear h
  intro x hx y hy e
  refine Classical.byContradiction fun ne => ?_
  induction h' with
  | nil => cases hx
  | @cons a l h1 _ ih =>
    rcases List.mem_cons.mp hx with h2 | h2
    · rcases List.mem_cons.mp hy with h3 | h3
      · exact ne (h2.trans h3.symm)
      · subst h2; exact h1 y h3 e
    · rcases List.mem_cons.mp hy with h3 | h3
      · subst h3; exact h1 x h2 e.symm
      · exact ih h2 h3
section
variable {X : Cx}
open Classical in
theorem cr_sortedTg : CallRK X (.builtin "sorted") [Str.ofString "reverse"] (rSortedTg X.K) := by
  intro pins s σ H vs zs us ws Q I r rz h
  obtain ⟨b, a, xs, ps, rfl, rfl, hs, pr, nd, q⟩ := h
  let kk : V → Int := fun v => if h : ∃ i, TagV X.K H v i then Classical.choose h else 0
  have uniq : ∀ v i j, TagV X.K H v i → TagV X.K H v j → i = j := fun v i j ⟨t, y, e1, q1⟩ ⟨t', y', e2, q2⟩ => by
    rw [e1] at e2
    cases e2
    have := I.tuple_inj q1 q2
    cases this
    rfl
  have hk : ∀ v i, TagV X.K H v i → kk v = i := fun v i hi => by
    have he : ∃ i, TagV X.K H v i := ⟨i, hi⟩
    have e : kk v = Classical.choose he := dif_pos he
    rw [e]
    exact uniq v _ _ (Classical.choose_spec he) hi
  have kmap : ∀ {us : List V} {ps : List (Int × PV)}, Paired (RTag X.K H) us ps → us.map kk = ps.map (·.1) := by
    intro us ps h
    induction h with
    | nil => rfl
    | cons a _ ih => rw [List.map_cons, List.map_cons, hk _ _ (tag_key a), ih]
  refine cr_sortedTag (b := b) pins s σ H _ _ us ws Q I r rz ⟨a, xs, kk, rfl, rfl, hs, fun v hv => ?_, nodup_ne (by rw [kmap pr]; exact nd), fun zs l hp ho hl => ?_⟩
  · obtain ⟨y, _, ry⟩ := paired_all pr v hv
    rw [hk _ _ (tag_key ry)]
    exact tag_key ry
  · obtain ⟨ps', hw1, hw2⟩ := paired_perm hp pr
    have km := kmap hw2
    refine q zs ps' l hw2 hw1 ?_ hl
    unfold OrdT
    cases b with
    | true =>
      rw [if_pos rfl] at ho ⊢
      have : (zs.map kk).Pairwise (fun a b => b ≤ a) := List.pairwise_map.mpr ho
      rw [km] at this
      exact List.pairwise_map.mp this
    | false =>
      rw [if_neg (by decide)] at ho ⊢
      have : (zs.map kk).Pairwise (fun a b => a ≤ b) := List.pairwise_map.mpr ho
      rw [km] at this
      exact List.pairwise_map.mp this
end
theorem rs_tags {K : PySem.W.Frag} {H : Hp} : ∀ {ps : List (Int × PV)} {vs : List V}, Rs K H (ps.map tagP) vs → Paired (RTag K H) vs ps
  | [], vs, h => by have e : vs = [] := h; subst e; exact .nil
  | x :: xs, vs, h => by
    obtain ⟨v, ws, rfl, r1, r2⟩ := h
    exact .cons r1 (rs_tags r2)
theorem tags_rs {K : PySem.W.Frag} {H : Hp} {ps : List (Int × PV)} {vs : List V} (h : Paired (RTag K H) vs ps) : Rs K H (ps.map tagP) vs := by
  induction h with
  | nil => rfl
  | cons a _ ih => exact ⟨_, _, rfl, a, ih⟩
/-- sorted(x, reverse = y) -/
def srevP (x y : PV) (M : Mp) (Q : ZQ) : Prop := match x, y with
  | .ref p, .bl b => match (lget M p).bind ztags with
    | some ps => (ps.map (·.1)).Nodup ∧ ∀ ps' : List (Int × PV), ps'.Perm ps → OrdT b ps' → allocL Q (ps'.map tagP) M
    | none => False
  | _, _ => False
section
variable {X : Cx} {W : L2.WX} {a d : Expr} {wa wd : ZWe} {p kpos pos : Pos}
theorem we_srev (hg : Gl X (Str.ofString "sorted")) (hm : X.mg (Str.ofString "sorted") = none) (ha : WE X W a wa) (hd : WE X W d wd) (s1 : starEach [a] X.env = [(false, eval a X.env)]) :
    WE X W (.Call (.Name (Str.ofString "sorted") p) [a] [⟨some (Str.ofString "reverse"), d, kpos⟩] pos) (fun E τ M Q => wa E τ M fun x M1 => wd E τ M1 fun y M2 => srevP x y M2 Q) := by
  have hA : WA X W [a] (wCons wa wNil) := wa_cons ha wa_nil s1
  have hK : WK X W [⟨some (Str.ofString "reverse"), d, kpos⟩] (wCons wd wNil) := wk_cons hd wk_nil
  have main : PE X (.Call (.Name (Str.ofString "sorted") p) [a] [⟨some (Str.ofString "reverse"), d, kpos⟩] pos) (tCKw (rSortedTg X.K) (liftA X.K X.mg W (wCons wa wNil)) (liftA X.K X.mg W (wCons wd wNil))) :=
    pe_callBK cr_sortedTg hg hm (by decide +kernel) hA hK (by decide) (by decide) (by rw [s1]; rfl) (by rw [s1]; rfl)
  refine PE.imp main fun σ H Q h => ?_
  obtain ⟨P, E, τ, M, Q', st, sm, hw, hcn, hE⟩ := h
  refine ⟨P, E, τ, M, fun xs M1 => match xs with
    | [x] => wd E τ M1 fun y M2 => srevP x y M2 Q'
    | _ => False, st, sm, hw, fun vs H1 xs M1 l1 sm1 r1 h1 => ?_, hE⟩
  match xs, r1, h1 with
  | [x], r1, h1 =>
    obtain ⟨v, rfl, rv⟩ := Rs.of1 r1
    refine ⟨P, E, τ, M1, fun zs M2 => match zs with
      | [y] => srevP x y M2 Q'
      | _ => False, st.mono l1, sm1, h1, fun us H2 ys M2 l2 sm2 r2 h2 => ?_, hE.mono l1⟩
    match ys, r2, h2 with
    | [y], r2, h2 =>
      obtain ⟨u, rfl, ru⟩ := Rs.of1 r2
      have rx := R.mono l2 _ _ rv
      have k := hcn.mono (l1.trans l2)
      have h2 : srevP x y M2 Q' := h2
      unfold srevP at h2
      split at h2
      · rename_i q b h0 h0'
        obtain rfl := R.of_ref rx
        obtain rfl : u = .bl b := ru
        cases e : lget M2 q with
        | none => rw [e] at h2; exact h2.elim
        | some ys =>
          rw [e, Option.bind_some] at h2
          cases e2 : ztags ys with
          | none => rw [e2] at h2; exact h2.elim
          | some ps =>
            rw [e2] at h2
            obtain ⟨nd, h2⟩ := h2
            have e3 := ztags_of e2
            subst e3
            obtain ⟨us, s1, s2⟩ := sm2.lget e
            refine ⟨b, q, us, ps, rfl, rfl, s1, rs_tags s2, nd, fun zs ps' l hz hp ho hl => ?_⟩
            exact k _ _ (.ref l) _ (Le.new hl) (sm2.new_lst hl (tags_rs hz)) rfl (h2 ps' hp ho l (sm2.fresh hl))
      · exact h2.elim
end
end Zd

set_option Elab.async false
set_option linter.all false
set_option maxRecDepth 100000
set_option maxHeartbeats 4000000
/-! Zd 27: try: B; except X as n: H; else: S. The rule for the else is made here; the rest goes by the kit's rules for exceptions whose context is None. -/
namespace L2N
open PySem PySem.Spec PyProof.Rows L2
section
variable {X : Cx} {x n : Str} {c : Value} {i : Nat} {body suite orelse : List Stmt} {b₀ : Stmt} {np pos pos' : Pos} {tb : WX → TS} {ts : Addr → Value → Option Addr → TS} {u : TS} {Wout : WX}
theorem ps_asElse (ho : PSs X orelse u) (hs : X.stack = X.env :: X.outer) (hf : X.env.frame = some X.env.locals) (hN : X.N.Nodup) (hi : X.N[i]? = some n) (hln : X.env.kindOf n = some .local) (hc : Names X x c) (tk : Takes X Wout)
    (hb : ∀ (W : WX) (pn : List (Addr × Obj)) (xe : Value → Shared → Prop), Takes (X.tr pn xe) W → PassesOwn (model X.prog X.w) X.A X.env xe → PSs (X.tr pn xe) body (tb W))
    (hsu : ∀ (a : Addr) (oe : Obj) (cls : Value) (d : Option Addr) (pn : List (Addr × Obj)), Zn cls d oe → (∃ vs, oe.data = .fields vs) → PSs (X.suite a ((a, oe) :: pn)) (b₀ :: suite) (ts a cls d)) :
    PS X (.Try body [.ExceptHandler (some (.Name x np)) (some n) (b₀ :: suite) pos'] orelse [] pos) (fun D σ H => tb (wAs X.K c i ts Wout D) { D with nx := u D } σ H) := by
  refine ⟨fun pins s σ H D I h => wpAny_Try_except ?_⟩
  have ok := I.ok
  have stk : X.A.frames = some (X.env :: X.outer) := by rw [ok.frames, hs]
  -- what is done with an exception of the body
  have catch_ : ∀ (v : Value) (s' : Shared), XE (X.tr (X.pn ++ pins) (fun e s₁ => wpAny (model X.prog X.w) X.A (noteFrame e X.env) (fun _ s₂ => wpAny (model X.prog X.w) X.A (setFlight e none) (fun _ s₃ =>
      wpAny (model X.prog X.w) X.A (handleBy e X.env [.ExceptHandler (some (.Name x np)) (some n) (b₀ :: suite) pos']) (SP X pins D) X.xe s₃) X.xe s₂) X.xe s₁)) (wAs X.K c i ts Wout D) v s' →
      wpAny (model X.prog X.w) X.A (noteFrame v X.env) (fun _ s₂ => wpAny (model X.prog X.w) X.A (setFlight v none) (fun _ s₃ =>
        wpAny (model X.prog X.w) X.A (handleBy v X.env [.ExceptHandler (some (.Name x np)) (some n) (b₀ :: suite) pos']) (SP X pins D) X.xe s₃) X.xe s₂) X.xe s' := by
    rintro v s' ⟨a, B, sI, q, σ', H', cls, d, rfl, Jt, keep, up, sky, na, os, ag, b, isb, yes, no⟩
    have J : Inv X pins σ' H' sI := Jt.ofTry ok
    refine Sky.land Zn.steady stk hf (by rw [← hs]; exact sky) fun h3 fl up3 => ?_
    have J3 : Inv X pins σ' H' { s' with heap := h3 } := J.landed keep fl.1 (up.trans up3) os ag
    obtain ⟨oe, vs, he, hz, hd⟩ := fl.there
    have apart : ∀ {h : Heap} {o : Obj} {ws : Array Value}, h.FunFrames B (X.env :: X.outer) → h.get? a = some o → o.data = .fields ws → a ∉ frs (X.env :: X.outer) := fun ff e dd hm => by
      obtain ⟨_, o', e', nf⟩ := ff.mem hm
      rw [e] at e'; cases e'
      exact nf _ dd
    have far := apart fl.2.2.1 he hd
    have nL : a ≠ X.env.locals := fun z => far (List.mem_filterMap.mpr ⟨X.env, List.mem_cons_self, by rw [hf, z]⟩)
    have nF : a ∉ X.fs := fun hm => by
      obtain ⟨e, h1, h2⟩ := List.mem_filterMap.mp hm
      exact far (List.mem_filterMap.mpr ⟨e, List.mem_cons_of_mem _ h1, h2⟩)
    have S3 := J3.suite he hd na nL nF
    have look : PySem.W.Looks (model X.prog X.w) h3 (typeOf (.ref a)) cls := fun A Q E s k q => wpAny_typeOf_ref (k _ _ he) (by rw [hz.1]; exact q)
    have mt := PySem.W.exm_one (M := model X.prog X.w) J3.kIn look isb
    have named : ∀ {Q : Value → Shared → Prop} {E : Value → Shared → Prop}, Q c { s' with heap := h3 } → wpAny (model X.prog X.w) (X.A.mark (some (.ref a))) (eval (.Name x np) X.env) Q E { s' with heap := h3 } := fun {Q E} q => by
      obtain ⟨g, hdb, hm | ⟨hm, hv, hn⟩⟩ := hc
      · exact ld_glob (X := X.suite a ((a, oe) :: (X.pn ++ pins))) S3 g hm q hdb
      · exact ld_blt (X := X.suite a ((a, oe) :: (X.pn ++ pins))) S3 g hm hv q hn hdb
    refine wpAny_handleBy_cons (codeAny_handlers_test (named (mt.here ?_))) (by intro q; cases q)
    cases b with
    | false =>
      show wpAny _ X.A (handleBy (.ref a) X.env []) _ _ _
      refine wpAny_handleBy_nil ?_
      obtain ⟨_, _, _, oe', vs', T, _, _, he', _, hd', h1, _⟩ := id fl
      unfold PySem.passOn
      refine wpAny_bind (wpAny_field he' hd' h1 ?_)
      rw [if_neg (show ¬ ((Value.ref T == Value.none) = true) from by simp)]
      have on : wpAny (model X.prog X.w) X.A (setFlight (.ref a) X.env.frame) (fun _ s4 => wpAny (model X.prog X.w) X.A (throw (.ref a) : Sem Flow) (SP X pins D) X.xe s4) X.xe { s' with heap := h3 } := by
        rw [hf]
        exact HandSPX.setFlight_upZ fl fun h4 hh up4 => wpAny_throw (tk _ _ ⟨a, B, sI, pins, σ', H', cls, d, rfl, J, keep, (up.trans up3).trans up4, .inr (.inr (by rw [hs]; exact hh)), na, os, ag, no rfl⟩)
      first
        | exact wpAny_bind (wpAny_pure (wpAny_bind on))
        | exact wpAny_bind on
    | true =>
      refine codeAny_handlers_suite_as (HandSPX.lands_againZ fl fun h4 fl4 up4 => ?_)
      obtain ⟨oe4, vs4, he4, hz4, hd4⟩ := fl4.there
      have S4 := (J.landed keep fl4.1 ((up.trans up3).trans up4) os ag : Inv X pins σ' H' { s' with heap := h4 }).suite he4 hd4 na nL nF
      refine store_ok (X := X.suite a ((a, oe4) :: (X.pn ++ pins))) (v := .ref a) S4 hN hi (.inl hln) rfl (fun s5 S5 => ?_) (.inr hln)
      have leave : ∀ {s6 : Shared} {σ6 : St} {H6 : Hp} {Q : Shared → Prop}, Inv (X.suite a ((a, oe4) :: (X.pn ++ pins))) [] σ6 H6 s6 → (∀ s7, Inv X pins (σ6.set i none) H6 s7 → Q s7) →
          wpAny (model X.prog X.w) X.A (do bindName X.env n .none; unbindBehindTheSuite X.env n pos') (fun _ s7 => Q s7) X.xe s6 := fun S6 hq => gone_ok (S6.unsuite ok) hN hi hln hq
      refine wpAny_mono ((hsu a oe4 cls d (X.pn ++ pins) hz4 ⟨_, hd4⟩).run [] s5 _ H' _ S5 (yes rfl a na)) (fun f s6 r => ?_) (fun _ _ z => z.elim)
      cases f with
      | ret w => obtain ⟨y, _, _, S6, ry, q6⟩ := r; exact leave S6 fun _ J7 => ⟨y, _, _, J7, ry, q6⟩
      | next => obtain ⟨_, _, S6, q6⟩ := r; exact leave S6 fun _ J7 => ⟨_, _, J7, q6⟩
      | brk => obtain ⟨_, _, S6, q6⟩ := r; exact leave S6 fun _ J7 => ⟨_, _, J7, q6⟩
      | cont => obtain ⟨_, _, S6, q6⟩ := r; exact leave S6 fun _ J7 => ⟨_, _, J7, q6⟩
  refine wpAny_mono ((hb (wAs X.K c i ts Wout D) (X.pn ++ pins) _ catch_ PassesOwn.looking).run [] s σ H { D with nx := u D } (I.toTry _) h) (fun f s1 r => ?_) (fun _ _ z => z)
  cases f with
  | next => obtain ⟨σ1, H1, J1, q⟩ := r; exact ho.run pins s1 σ1 H1 D (J1.ofTry ok) q
  | brk => obtain ⟨_, _, J1, q⟩ := r; exact ⟨_, _, J1.ofTry ok, q⟩
  | cont => obtain ⟨_, _, J1, q⟩ := r; exact ⟨_, _, J1.ofTry ok, q⟩
  | ret w => obtain ⟨y, _, _, J1, ry, q⟩ := r; exact ⟨y, _, _, J1.ofTry ok, ry, q⟩
end
end L2N
namespace Zd
open PySem PySem.Spec PyProof.Rows L2
section
variable {X : Cx} {i k : Nat} {c n : Str} {fl : List Str} {body suite orelse : List Stmt} {b₀ : Stmt} {np pos pos' : Pos} {w u : ZWs}
def wTryF (c : Str) (i : Nat) (sw : XA → ZWs) (w u : ZWs) : ZWs := fun J nx τ M => w { J with ex := fun τ' c' fs M' => c' = c ∧ i < τ'.length ∧ fs ≠ [] ∧ ∀ a d φ, M' d = none → sw ⟨a, d, φ, fs⟩ { rt := J.rt, bk := fun _ _ => False, ct := fun _ _ => False, ex := fun _ _ _ _ => False } (fun τ2 M2 => nx (τ2.set i none) M2) (τ'.set i (some (.ref a))) (mu M' d (.abs φ [d])) } (fun τ' M' => u J nx τ' M') τ M
theorem ws_tryF {W : L2.WX} {sw : XA → ZWs} (E : ExcAt X.prog X.w X.K X.mg X.base k c fl) (stk : X.stack = X.env :: X.outer) (frm : X.env.frame = some X.env.locals) (nd : X.N.Nodup) (hN : X.N[i]? = some n) (hln : X.env.kindOf n = some .local)
    (hg : Gl X c) (hd : (c == ("__debug__" : Str)) = false) (hW : L2N.Takes X W) (ho : WSs X W orelse u)
    (hb : ∀ (W : L2.WX) (pn : List (Addr × Obj)) (xe : Value → Shared → Prop), L2N.Takes (X.tr pn xe) W → PassesOwn (model X.prog X.w) X.A X.env xe → WSs (X.tr pn xe) W body w)
    (hsw : ∀ (A fI : Addr), ExcC X.K A fI fl → ∀ (a : Addr) (oe : Obj) (d0 : Addr) (pn : List (Addr × Obj)) (fs : List (Str × PV)), L2N.Zn (.ref A) (some d0) oe → (∃ vs, oe.data = .fields vs) → L2H.HotC (X.suite a ((a, oe) :: pn)) → WSs (X.suite a ((a, oe) :: pn)) (fun _ _ _ _ => False) (b₀ :: suite) (sw ⟨a, d0, xφ X.K d0 fs, fs⟩)) :
    WS X W (.Try body [.ExceptHandler (some (.Name c np)) (some n) (b₀ :: suite) pos'] orelse [] pos) (wTryF c i sw w u) := by
  obtain ⟨A, fI, fd, ps, j, hm, T, hj, F, hbd⟩ := E.ex
  let tS : Addr → Value → Option Addr → TS := fun a cls d D σ H => ∃ d0 fs, cls = .ref A ∧ d = some d0 ∧ liftS X.K X.mg (fun _ _ _ _ => False) (sw ⟨a, d0, xφ X.K d0 fs, fs⟩) D σ H
  have su : ∀ (a : Addr) (oe : Obj) (cls : Value) (d : Option Addr) (pn : List (Addr × Obj)), L2N.Zn cls d oe → (∃ vs, oe.data = .fields vs) → PSs (X.suite a ((a, oe) :: pn)) (b₀ :: suite) (tS a cls d) := fun a oe cls d pn hz hf => by
    refine ⟨fun pins s σ H D I h => ?_⟩
    obtain ⟨d0, fs, rfl, rfl, h⟩ := h
    exact (hsw A fI T a oe d0 pn fs hz hf (hot_suite hz hf)).run pins s σ H D I h
  refine PS.imp (L2N.ps_asElse (c := .ref A) (i := i) (tb := fun W => liftS X.K X.mg W w) (ts := tS) (Wout := W) ho stk frm nd hN hln ⟨hg, hd, .inl hm⟩ hW hb su) fun D σ H h => ?_
  obtain ⟨P, J, nx, τ, M, st, sm, hw, hn, hj⟩ := h
  refine ⟨P, _, _, τ, M, st, sm, hw, fun σ' H' τ' M' l st' sm' h' => ⟨P, J, nx, τ', M', st', sm', h', hn.mono l, hj.mono l⟩, ⟨hj.rt, hj.bk, hj.ct, ?_⟩⟩
  rintro σ' H' τ' l st' c' fs M' cls d H2 l2 sm2 xr ⟨rfl, hi, hne, hq⟩
  have hA : cls = .ref A := by
    have := xr.cls
    rw [hm] at this
    exact (Option.some.inj this).symm
  refine ⟨true, by rw [hA]; exact T.te, fun _ a ha => ?_, fun z => nomatch z⟩
  rcases xr.dct with z | ⟨dx, ws, e1, e2, ⟨e3, e4⟩, e5⟩
  · exact absurd z hne
  have hq := hq a dx (xφ X.K dx fs) e3
  show ∃ d0 fs, _
  refine ⟨dx, fs, hA, e1, P, _, _, _, _, (st'.mono l2).set (show R X.K H2 (.ref a) (.ref a) from rfl), sm2.xd e3 e4 ⟨ws, e2, e5⟩, hq, fun σ3 H3 τ3 M3 l3 st3 sm3 h3 => ?_, ⟨hj.rt.mono (l.trans l2), fun _ _ _ _ _ _ _ z => z.elim, fun _ _ _ _ _ _ _ z => z.elim, fun _ _ _ _ _ _ _ _ _ _ _ _ _ _ z => z.elim⟩⟩
  exact hn _ _ _ _ ((l.trans l2).trans l3) (st3.wipe [i]) sm3 h3
end
end Zd

set_option Elab.async false
set_option linter.all false
set_option maxRecDepth 100000
set_option maxHeartbeats 4000000
/-! Zd 7: a syntax of our own, what its texts want (wp), which text of the model's it stands for (chk). -/
namespace Zd
open PySem PySem.Spec PyProof.Rows L2

inductive Blt where
  | len | abs | int | max | min | sum | tuple | list | isi | any | all | str | sorted
inductive Mth where
  | append | pop | popAt | extend | bits | reverse | index | insert | indexT
/-- operations of one, two values; walks of one, two, three -/
inductive Op1 where
  | asT | tupF
  | anyi | alli | rvl | lrng1 | join (sep : Str)
inductive Op2 where
  | srev | lrng2
inductive It1 where
  | rev | revr1
inductive It2 where
  | revr2
inductive It3 where
  | rng3

mutual
inductive ZE where
  | var (i : Nat)
  | int (i : Int)
  | bl (b : Bool)
  | non
  | str (x : Str)
  | gl (x : Str) (v : PV)
  | ty (x : String)
  | bin (op : Operator) (a b : ZE)
  | un (op : UnaryOp) (a : ZE)
  | cmp (op : CmpOp) (a b : ZE)
  | chn (op op' : CmpOp) (a b c : ZE)
  | vand (k : ZVK)
  | vor (k : ZVK)
  | vnot (a : ZE)
  | ife (t : ZT) (a b : ZE)
  | tup (as : ZA)
  | lst (as : ZA)
  | ix (a b : ZE)
  | sl (a : ZE) (lo hi : ZO)
  | call (x : Str) (n : Nat) (sp : ZSp) (as : ZA)
  | blt (b : Blt) (as : ZA)
  | mth (m : Mth) (o : ZE) (as : ZA)
  | lc (own : List (Str × Nat)) (g : ZG) (it : ZI) (t : ZT) (e : ZE)
  | lc2 (own : List (Str × Nat)) (g : ZG) (it : ZI) (t : ZT) (vs1 : List Nat) (g1 : ZG) (it1 : ZI) (t1 : ZT) (e : ZE)
  | dc (own : List (Str × Nat)) (g : ZG) (it : ZI) (t : ZT) (kx vx : ZE)
  | dget (d k x : ZE)
  | fmt (e : ZE)
  | callK (x : Str) (ks : List Str) (sp : ZSp) (as : ZA)
  | dnew
  | dget1 (d k : ZE)
  | lvals (d : ZE)
  | mnd (mx : Bool) (a d : ZE)
  | js (as : ZA)
  | op1 (o : Op1) (a : ZE)
  | op2 (o : Op2) (a b : ZE)
inductive ZA where
  | nil
  | cons (e : ZE) (es : ZA)
inductive ZO where
  | none
  | some (e : ZE)
inductive ZT where
  | tt
  | tv (e : ZE)
  | cmp (op : CmpOp) (a b : ZE)
  | chn (op op' : CmpOp) (a b c : ZE)
  | and (k : ZTK)
  | or (k : ZTK)
  | not (t : ZT)
inductive ZTK where
  | one (t : ZT)
  | cons (t : ZT) (k : ZTK)
inductive ZVK where
  | one (e : ZE)
  | cons (e : ZE) (k : ZVK)
inductive ZI where
  | seq (e : ZE)
  | rng1 (a : ZE)
  | rng2 (a b : ZE)
  | enum (a : ZE)
  | zip (a b : ZE)
  | it1 (o : It1) (a : ZE)
  | it2 (o : It2) (a b : ZE)
  | it3 (o : It3) (a b c : ZE)
inductive ZG where
  | nm (i : Nat)
  | tup (n : Nat) (gs : ZGs)
  | ix (o i : ZE)
inductive ZGs where
  | nil
  | cons (g : ZG) (gs : ZGs)
end
/-- what stands in a suite that returns: fields of the caught exception, else expressions -/
inductive SB where
  | fld (f : Str)
  | z (e : ZE)
inductive SA where
  | one (b : SB)
  | two (a b : SB)
inductive SJ where
  | z (e : ZE)
  | same (x : Str) (n : Nat) (sp : ZSp) (l r : SA)
inductive ZS where
  | nil
  | seq (s : ZS) (rest : ZS)
  | pass | brk | cont
  | expr (e : ZE)
  | ret (e : ZE)
  | retn
  | ifs (t : ZT) (a b : ZS)
  | asg (g : ZG) (e : ZE)
  | par (i j : Nat) (a b : ZE)
  | aug (i : Nat) (op : Operator) (e : ZE)
  | augx (o i : ZE) (op : Operator) (e : ZE)
  | fors (g : ZG) (it : ZI) (b : ZS)
  | whiles (t : ZT) (b : ZS)
  | raise (c : Str) (fl : List Str) (as : ZA)
  | tryE (b : ZS) (c : Str) (fl : List Str) (i : Nat) (tup : Bool) (its : List SI)
  | tryC (b : ZS) (c : Str) (fl : List Str) (i : Nat) (js : List SJ)
  | tryF (b : ZS) (c : Str) (fl : List Str) (i : Nat) (t : ZT) (j : SJ) (e : ZS)
  | never
def getP (τ : Tau) (i : Nat) (M : Mp) (Q : ZQ) : Prop := match τ[i]? with
  | some (some y) => Q y M
  | _ => False
def intO (x : PV) (M : Mp) (Q : Option Int → Mp → Prop) : Prop := match x with
  | .int i => Q (some i) M
  | _ => False
/-- list(d.values()) -/
def lvalsP (o : PV) (M : Mp) (Q : ZQ) : Prop := match dicOf o M with
  | some kvs => allocL Q (kvs.map (·.2)) M
  | none => False
/-! built-in functions -/
def anyP (xs : List PV) (M : Mp) (Q : ZQ) : Prop := match xs with
  | [.ref p] => match lget M p with
    | some ys => ∃ bs : List Bool, ys = bs.map PV.bl ∧ Q (.bl (bs.any id)) M
    | none => False
  | _ => False
def allP (xs : List PV) (M : Mp) (Q : ZQ) : Prop := match xs with
  | [.ref p] => match lget M p with
    | some ys => ∃ bs : List Bool, ys = bs.map PV.bl ∧ Q (.bl (bs.all id)) M
    | none => False
  | _ => False
def strP (xs : List PV) (M : Mp) (Q : ZQ) : Prop := match xs with
  | [.int i] => i.natAbs.log2 < 1920 ∧ Q (.str (toString i)) M
  | _ => False
def sortedP (xs : List PV) (M : Mp) (Q : ZQ) : Prop := match xs with
  | [.ref p] => match (lget M p).bind zints with
    | some ns => ∀ (ns' : List Int), ns'.Perm ns → ns'.Pairwise (· ≤ ·) → allocL Q (ns'.map PV.int) M
    | none => match (lget M p).bind zpairs with
      | some ps => ∀ ps' : List (Int × Int), ps'.Perm ps → ps'.Pairwise lexLe → allocL Q (ps'.map pairI) M
      | none => False
  | _ => False
def bltP : Blt → List PV → Mp → ZQ → Prop
  | .len => lenP
  | .abs => i1P fun i => if i < 0 then -i else i
  | .int => intP
  | .max => maxP
  | .min => minP
  | .sum => sumP
  | .tuple => tupleP
  | .list => listP
  | .isi => isiP
  | .any => anyP
  | .all => allP
  | .str => strP
  | .sorted => sortedP
/-! methods -/
def isLst (o : PV) (M : Mp) : Prop := match o with
  | .ref p => match lget M p with
    | some _ => True
    | none => False
  | _ => False
def appendP (o : PV) (xs : List PV) (M : Mp) (Q : ZQ) : Prop := match o, xs with
  | .ref p, [y] => match M p with
    | some (.lst ys) => ys.length < sizeLine ∧ Q .non (mu M p (.lst (ys ++ [y])))
    | _ => False
  | _, _ => False
def popP (o : PV) (xs : List PV) (M : Mp) (Q : ZQ) : Prop := match o, xs with
  | .ref p, [] => match M p with
    | some (.lst ys) => match ys.getLast? with
      | some y => Q y (mu M p (.lst ys.dropLast))
      | none => False
    | _ => False
  | _, _ => False
def popAtP (o : PV) (xs : List PV) (M : Mp) (Q : ZQ) : Prop := match o, xs with
  | .ref p, [.int i] => match M p with
    | some (.lst ys) => (-(2 ^ 63) ≤ i ∧ i < 2 ^ 63) ∧ match ixN ys.length i with
      | some k => match ys[k]? with
        | some y => Q y (mu M p (.lst (ys.eraseIdx k)))
        | none => False
      | none => False
    | _ => False
  | _, _ => False
def extendP (o : PV) (xs : List PV) (M : Mp) (Q : ZQ) : Prop := match o, xs with
  | .ref p, [.ref q] => match M p, M q with
    | some (.lst ys), some (.lst zs) => ys.length + zs.length ≤ sizeLine ∧ Q .non (mu M p (.lst (ys ++ zs)))
    | _, _ => False
  | .ref p, [.tup zs] => match M p with
    | some (.lst ys) => ys.length + zs.length ≤ sizeLine ∧ Q .non (mu M p (.lst (ys ++ zs)))
    | _ => False
  | _, _ => False
def reverseP (o : PV) (xs : List PV) (M : Mp) (Q : ZQ) : Prop := match o, xs with
  | .ref p, [] => match M p with
    | some (.lst ys) => Q .non (mu M p (.lst ys.reverse))
    | _ => False
  | _, _ => False
def bitsP (o : PV) (M : Mp) (Q : ZQ) : Prop := match o with
  | .int i => Q (.int (Builtin.Int.intBits i : Nat)) M
  | _ => False
def indexP (o : PV) (xs : List PV) (M : Mp) (Q : ZQ) : Prop := match o, xs with
  | .ref p, [y] => match lget M p with
    | some ys => (flatP y = true ∧ ys.all flatP = true) ∧ match ys.findIdx? (eqF · y) with
      | some j => Q (.int (j : Nat)) M
      | none => False
    | none => False
  | _, _ => False
/-- tuple(x): what is made anew is known to have no own names -/
def tupFP (x : PV) (M : Mp) (Q : ZQ) : Prop := match x with
  | .ref p => match lget M p with
    | some xs => Q (.ftu xs) M
    | none => False
  | .ftu xs => Q (.ftu xs) M
  | .tup xs => Q (.tup xs) M
  | _ => False
def indexTP (o : PV) (xs : List PV) (M : Mp) (Q : ZQ) : Prop := match o, xs with
  | .ftu ys, [y] => (flatP y = true ∧ ys.all flatP = true) ∧ match ys.findIdx? (eqF · y) with
    | some j => Q (.int (j : Nat)) M
    | none => False
  | _, _ => False
def isTupO (o : PV) : Prop := match o with
  | .ftu _ => True
  | _ => False
def insertP (o : PV) (xs : List PV) (M : Mp) (Q : ZQ) : Prop := match o, xs with
  | .ref p, [.int i, y] => match M p with
    | some (.lst ys) => (ys.length < sizeLine ∧ 0 ≤ i ∧ i < 2 ^ 63) ∧ Q .non (mu M p (.lst (ys.take i.toNat ++ [y] ++ ys.drop i.toNat)))
    | _ => False
  | _, _ => False
/-! operations -/
def rvlP (x : PV) (M : Mp) (Q : ZQ) : Prop := match x with
  | .ref p => match lget M p with
    | some xs => allocL Q xs.reverse M
    | none => False
  | .tup xs => Q (.tup xs.reverse) M
  | _ => False
def lrngP (x y : PV) (M : Mp) (Q : ZQ) : Prop := match x, y with
  | .int a, .int b => (-16777216 ≤ a ∧ a ≤ 16777216 ∧ -16777216 ≤ b ∧ b ≤ 16777216 ∧ b - a ≤ 16777216) ∧ allocL Q (rngL a (b - a).toNat) M
  | _, _ => False
def zstrs : List PV → Option (List Str)
  | [] => some []
  | .str x :: r => (zstrs r).map (x :: ·)
  | _ :: _ => none
def joinP (sep : Str) (x : PV) (M : Mp) (Q : ZQ) : Prop := match (seqOf x M).bind zstrs with
  | some ts => (ts.map (·.length)).sum + ts.length * sep.length ≤ 16777216 ∧ Q (.str (Txt.join sep ts)) M
  | none => False
def op1P : Op1 → PV → Mp → ZQ → Prop
  | .asT, x, M, Q => Q (thaw x) M
  | .tupF, x, M, Q => tupFP x M Q
  | .anyi, x, M, Q => flP (fun fs => fs.any Fl.t) [x] M Q
  | .alli, x, M, Q => flP (fun fs => fs.all Fl.t) [x] M Q
  | .rvl, x, M, Q => rvlP x M Q
  | .lrng1, x, M, Q => lrngP (.int 0) x M Q
  | .join sep, x, M, Q => joinP sep x M Q
def op2P : Op2 → PV → PV → Mp → ZQ → Prop
  | .srev => srevP
  | .lrng2 => lrngP
/-! walks -/
def revP (x : PV) (M : Mp) (Q : ZSeq → Mp → Prop) : Prop := match srcOf x M with
  | some sq => Q ⟨sq.its.reverse, sq.ok⟩ M
  | none => False
def revrP (x y : PV) (M : Mp) (Q : ZSeq → Mp → Prop) : Prop := match x, y with
  | .int a, .int b => (-(2 ^ 62) ≤ a ∧ a < 2 ^ 62 ∧ -(2 ^ 62) ≤ b ∧ b < 2 ^ 62) ∧ Q ⟨(rngL a (b - a).toNat).reverse, fun _ => True⟩ M
  | _, _ => False
def rngC (lo c : Int) (n : Nat) : List PV := (List.range n).map fun (k : Nat) => PV.int (lo + k * c)
def rng3P (x y z : PV) (M : Mp) (Q : ZSeq → Mp → Prop) : Prop := match x, y, z with
  | .int i, .int j, .int c => ∃ n, RgC i j c n ∧ Q ⟨rngC i c n, fun _ => True⟩ M
  | _, _, _ => False
def it1P : It1 → PV → Mp → (ZSeq → Mp → Prop) → Prop
  | .rev => revP
  | .revr1 => revrP (.int 0)
def it2P : It2 → PV → PV → Mp → (ZSeq → Mp → Prop) → Prop
  | .revr2 => revrP
def it3P : It3 → PV → PV → PV → Mp → (ZSeq → Mp → Prop) → Prop
  | .rng3 => rng3P
/-- what is asked of the receiver before the arguments; then of all -/
def mthO : Mth → PV → Mp → Prop
  | .bits, _, _ => True
  | .indexT, o, _ => isTupO o
  | _, o, M => isLst o M
def mthP : Mth → PV → List PV → Mp → ZQ → Prop
  | .append => appendP
  | .pop => popP
  | .popAt => popAtP
  | .extend => extendP
  | .reverse => reverseP
  | .bits => fun o _ M Q => bitsP o M Q
  | .index => indexP
  | .indexT => indexTP
  | .insert => insertP
mutual
def wpE : ZE → ZX → Tau → Mp → ZQ → Prop
  | .var i, _, τ, M, Q => getP τ i M Q
  | .int i, _, _, M, Q => Q (.int i) M
  | .bl b, _, _, M, Q => Q (.bl b) M
  | .non, _, _, M, Q => Q .non M
  | .str x, _, _, M, Q => Q (.str x) M
  | .gl _ v, _, _, M, Q => Q v M
  | .ty x, _, _, M, Q => Q (.ty x) M
  | .bin op a b, E, τ, M, Q => wpE a E τ M fun x M1 => wpE b E τ M1 fun y M2 => bin2 op x y M2 Q
  | .un op a, E, τ, M, Q => wpE a E τ M fun x M1 => unP op x M1 Q
  | .cmp op a b, E, τ, M, Q => wpE a E τ M fun x M1 => wpE b E τ M1 fun y M2 => cmpP op x y M2 Q
  | .chn op op' a b c, E, τ, M, Q => wpE a E τ M fun x M1 => wpE b E τ M1 fun y M2 => cmpP op x y M2 fun z M3 => isBl z M3 fun k M4 => if k = true then wpE c E τ M4 (fun w' M5 => cmpP op' y w' M5 Q) else Q (.bl false) M4
  | .vand k, E, τ, M, Q => wpVA k E τ M Q
  | .vor k, E, τ, M, Q => wpVO k E τ M Q
  | .vnot a, E, τ, M, Q => wpE a E τ M fun x M1 => truP x M1 fun k M2 => Q (.bl (!k)) M2
  | .ife t a b, E, τ, M, Q => wpT t E τ M fun c M1 => if c = true then wpE a E τ M1 Q else wpE b E τ M1 Q
  | .tup as, E, τ, M, Q => wpA as E τ M fun xs M1 => xs.length ≤ sizeLine ∧ Q (.tup xs) M1
  | .lst as, E, τ, M, Q => wpA as E τ M fun xs M1 => newL M1 xs Q
  | .ix a b, E, τ, M, Q => wpE a E τ M fun x M1 => wpE b E τ M1 fun y M2 => ixP x y M2 Q
  | .sl a lo hi, E, τ, M, Q => wpE a E τ M fun x M1 => wpO lo E τ M1 fun l M2 => wpO hi E τ M2 fun h M3 => slP x l h M3 Q
  | .call _ _ sp as, E, τ, M, Q => wpA as E τ M fun xs M1 => sp xs M1 Q E
  | .blt b as, E, τ, M, Q => wpA as E τ M fun xs M1 => bltP b xs M1 Q
  | .mth m o as, E, τ, M, Q => wpE o E τ M fun x M1 => mthO m x M1 ∧ wpA as E τ M1 fun xs M2 => mthP m x xs M2 Q
  | .lc own g it t e, E, τ, M, Q => wpI it E τ M fun sq M1 => lcP sq.ok (fun x M k => wpG g x (wipeT τ (own.map (·.2))) M fun τ2 M2 => wpT t E0x τ2 M2 fun b M3 => if b = true then wpE e E0x τ2 M3 fun y M4 => k (some y) M4 else k none M3) (allocL Q) sq.its [] M1
  | .lc2 own g it t vs1 g1 it1 t1 e, E, τ, M, Q => wpI it E τ M fun sq M1 => lc2P sq.ok (fun x acc M k => wpG g x (wipeT τ (own.map (·.2))) M fun τ2 M2 => wpT t E0x τ2 M2 fun b M3 => if b = true then wpI it1 E0x τ2 M3 fun sq1 M4 => lcP sq1.ok (fun x M k' => wpG g1 x (wipeT τ2 vs1) M fun τ3 M5 => wpT t1 E0x τ3 M5 fun b M6 => if b = true then wpE e E0x τ3 M6 fun y M7 => k' (some y) M7 else k' none M6) k sq1.its acc M4 else k acc M3) (allocL Q) sq.its [] M1
  | .dc own g it t kx vx, E, τ, M, Q => wpI it E τ M fun sq M1 => dcP sq.ok (fun x M k => wpG g x (wipeT τ (own.map (·.2))) M fun τ2 M2 => wpT t E0x τ2 M2 fun b M3 => if b = true then wpE kx E0x τ2 M3 fun y M4 => wpE vx E0x τ2 M4 fun z M5 => k (some (y, z)) M5 else k none M3) (allocD Q) sq.its [] M1
  | .dget d k x, E, τ, M, Q => wpE d E τ M fun o M1 => (dicOf o M1).isSome = true ∧ wpE k E τ M1 fun y M2 => wpE x E τ M2 fun z M3 => dgetP o y M3 fun r => Q (r.getD z) M3
  | .fmt e, E, τ, M, Q => wpE e E τ M fun x M1 => fmtP x M1 Q
  | .dnew, _, _, M, Q => allocD Q [] M
  | .dget1 d k, E, τ, M, Q => wpE d E τ M fun o M1 => (dicOf o M1).isSome = true ∧ wpE k E τ M1 fun y M2 => dgetP o y M2 fun r => Q (r.getD .non) M2
  | .lvals d, E, τ, M, Q => wpE d E τ M fun o M1 => lvalsP o M1 Q
  | .mnd mx a d, E, τ, M, Q => wpE a E τ M fun x M1 => wpE d E τ M1 fun y M2 => mndP mx x y M2 Q
  | .callK _ _ sp as, E, τ, M, Q => wpA as E τ M fun xs M1 => sp xs M1 Q E
  | .js as, E, τ, M, Q => wpJ as Str.empty E τ M fun out M1 => Q (.str out) M1
  | .op1 o a, E, τ, M, Q => wpE a E τ M fun x M1 => op1P o x M1 Q
  | .op2 o a b, E, τ, M, Q => wpE a E τ M fun x M1 => wpE b E τ M1 fun y M2 => op2P o x y M2 Q
def wpJ : ZA → Str → ZX → Tau → Mp → (Str → Mp → Prop) → Prop
  | .nil, acc, _, _, M, Q => Q acc M
  | .cons e es, acc, E, τ, M, Q => wpE e E τ M fun x M1 => strO x fun y => (acc ++ y).length ≤ sizeLine ∧ wpJ es (acc ++ y) E τ M1 Q
def wpA : ZA → ZX → Tau → Mp → (List PV → Mp → Prop) → Prop
  | .nil, _, _, M, Q => Q [] M
  | .cons e es, E, τ, M, Q => wpE e E τ M fun x M1 => wpA es E τ M1 fun xs M2 => Q (x :: xs) M2
def wpO : ZO → ZX → Tau → Mp → (Option Int → Mp → Prop) → Prop
  | .none, _, _, M, Q => Q none M
  | .some e, E, τ, M, Q => wpE e E τ M fun x M1 => intO x M1 Q
def wpT : ZT → ZX → Tau → Mp → (Bool → Mp → Prop) → Prop
  | .tt, _, _, M, Q => Q true M
  | .tv e, E, τ, M, Q => wpE e E τ M fun x M1 => truP x M1 Q
  | .cmp op a b, E, τ, M, Q => wpE a E τ M fun x M1 => wpE b E τ M1 fun y M2 => cmpP op x y M2 fun z M3 => isBl z M3 Q
  | .chn op op' a b c, E, τ, M, Q => wpE a E τ M fun x M1 => wpE b E τ M1 fun y M2 => cmpP op x y M2 fun z M3 => isBl z M3 fun k M4 => if k = true then wpE c E τ M4 (fun w' M5 => cmpP op' y w' M5 fun z M6 => isBl z M6 Q) else Q false M4
  | .and k, E, τ, M, Q => wpTA k E τ M Q
  | .or k, E, τ, M, Q => wpTO k E τ M Q
  | .not t, E, τ, M, Q => wpT t E τ M fun c M1 => Q (!c) M1
def wpTA : ZTK → ZX → Tau → Mp → (Bool → Mp → Prop) → Prop
  | .one t, E, τ, M, Q => wpT t E τ M Q
  | .cons t k, E, τ, M, Q => wpT t E τ M fun c M1 => if c = true then wpTA k E τ M1 Q else Q false M1
def wpTO : ZTK → ZX → Tau → Mp → (Bool → Mp → Prop) → Prop
  | .one t, E, τ, M, Q => wpT t E τ M Q
  | .cons t k, E, τ, M, Q => wpT t E τ M fun c M1 => if c = true then Q true M1 else wpTO k E τ M1 Q
def wpVA : ZVK → ZX → Tau → Mp → ZQ → Prop
  | .one e, E, τ, M, Q => wpE e E τ M Q
  | .cons e k, E, τ, M, Q => wpE e E τ M fun x M1 => truP x M1 fun c M2 => if c = true then wpVA k E τ M2 Q else Q x M2
def wpVO : ZVK → ZX → Tau → Mp → ZQ → Prop
  | .one e, E, τ, M, Q => wpE e E τ M Q
  | .cons e k, E, τ, M, Q => wpE e E τ M fun x M1 => truP x M1 fun c M2 => if c = true then Q x M2 else wpVO k E τ M2 Q
def wpI : ZI → ZX → Tau → Mp → (ZSeq → Mp → Prop) → Prop
  | .seq e, E, τ, M, Q => wpE e E τ M fun x M1 => seqP x M1 Q
  | .rng1 a, E, τ, M, Q => wpE a E τ M fun x M1 => rng1P [x] M1 Q
  | .rng2 a b, E, τ, M, Q => wpE a E τ M fun x M1 => wpE b E τ M1 fun y M2 => rng2P [x, y] M2 Q
  | .enum a, E, τ, M, Q => wpE a E τ M fun x M1 => enumP x M1 Q
  | .zip a b, E, τ, M, Q => wpE a E τ M fun x M1 => wpE b E τ M1 fun y M2 => zipP x y M2 Q
  | .it1 o a, E, τ, M, Q => wpE a E τ M fun x M1 => it1P o x M1 Q
  | .it2 o a b, E, τ, M, Q => wpE a E τ M fun x M1 => wpE b E τ M1 fun y M2 => it2P o x y M2 Q
  | .it3 o a b c, E, τ, M, Q => wpE a E τ M fun x M1 => wpE b E τ M1 fun y M2 => wpE c E τ M2 fun z M3 => it3P o x y z M3 Q
def wpG : ZG → PV → Tau → Mp → (Tau → Mp → Prop) → Prop
  | .nm i, x, τ, M, Q => Q (τ.set i (some x)) M
  | .tup n gs, x, τ, M, Q => match x with
    | .tup xs => xs.length = n ∧ wpGs gs xs τ M Q
    | _ => False
  | .ix o i, x, τ, M, Q => wpE o E0x τ M fun o M1 => wpE i E0x τ M1 fun i M2 => setP o i x M2 fun M3 => Q τ M3
def wpGs : ZGs → List PV → Tau → Mp → (Tau → Mp → Prop) → Prop
  | .nil, xs, τ, M, Q => xs = [] ∧ Q τ M
  | .cons g gs, xs, τ, M, Q => match xs with
    | x :: r => wpG g x τ M fun τ' M' => wpGs gs r τ' M' Q
    | [] => False
end
def augP (op : Operator) : PV → PV → Mp → ZQ → Prop := match op with
  | .Add => fun x y M Q => match x, y with
    | .int i, .int j => Q (.int (i + j)) M
    | .str a, .str b => a.length + b.length ≤ sizeLine ∧ Q (.str (a ++ b)) M
    | _, _ => False
  | .Sub => iiP fun i j => .int (i - j)
  | _ => fun _ _ _ _ => False
/-- what stands at o[i]: a list, a dict -/
def itemP (o i : PV) (M : Mp) (Q : ZQ) : Prop := match o with
  | .ref p => ixP (.ref p) i M Q
  | _ => False
def wSB (i : Nat) : SB → XA → ZWe
  | .fld f, xa => wFld i f xa
  | .z e, _ => wpE e
def wSA (i : Nat) : SA → XA → ZWe
  | .one b, xa => wSB i b xa
  | .two a b, xa => wTup (wCons (wSB i a xa) (wCons (wSB i b xa) wNil))
def wSJ (i : Nat) : SJ → XA → ZWe
  | .z e, _ => wpE e
  | .same _ _ sp l r, xa => wCall sp (wCons (wSA i l xa) (wCons (wSA i r xa) wNil))
def wSJs (i : Nat) : List SJ → XA → ZWe
  | [], _ => fun _ _ _ _ => False
  | [s], xa => wSJ i s xa
  | s :: t :: r, xa => wAndV (wSJ i s xa) (wSJs i (t :: r) xa)
def wpS : ZS → ZJ → (Tau → Mp → Prop) → Tau → Mp → Prop
  | .nil, _, nx, τ, M => nx τ M
  | .seq s r, J, nx, τ, M => wpS s J (fun τ' M' => wpS r J nx τ' M') τ M
  | .pass, _, nx, τ, M => nx τ M
  | .brk, J, _, τ, M => J.bk τ M
  | .cont, J, _, τ, M => J.ct τ M
  | .expr e, J, nx, τ, M => wpE e (J.ex τ) τ M fun _ M1 => nx τ M1
  | .ret e, J, _, τ, M => wpE e (J.ex τ) τ M J.rt
  | .retn, J, _, _, M => J.rt .non M
  | .ifs t a b, J, nx, τ, M => wpT t (J.ex τ) τ M fun c M1 => if c = true then wpS a J nx τ M1 else wpS b J nx τ M1
  | .asg g e, J, nx, τ, M => wpE e (J.ex τ) τ M fun x M1 => wpG g x τ M1 nx
  | .par i j a b, J, nx, τ, M => wpE a (J.ex τ) τ M fun x M1 => wpE b (J.ex τ) τ M1 fun y M2 => nx ((τ.set i (some x)).set j (some y)) M2
  | .aug i op e, J, nx, τ, M => getP τ i M fun x _ => wpE e (J.ex τ) τ M fun y M1 => augP op x y M1 fun z M2 => nx (τ.set i (some z)) M2
  | .augx o i op e, J, nx, τ, M => wpE o (J.ex τ) τ M fun x M1 => wpE i (J.ex τ) τ M1 fun y M2 => itemP x y M2 fun v M3 => wpE e (J.ex τ) τ M3 fun z M4 => augP op v z M4 fun r M5 => setP x y r M5 fun M6 => nx τ M6
  | .fors g it b, J, nx, τ, M => wpI it (J.ex τ) τ M fun sq M1 => forP sq.ok (fun x τ M k => wpG g x τ M fun τ' M' => wpS b { J with bk := nx, ct := k } k τ' M') nx sq.its τ M1
  | .whiles t b, J, nx, τ, M => ∃ I : Nat → Tau → Mp → Prop, (∃ m, I m τ M) ∧ ∀ m τ M, I m τ M → wpT t (J.ex τ) τ M fun c M1 =>
      if c = true then wpS b { J with bk := nx, ct := dropT fun τ' M' => ∃ m', m' < m ∧ I m' τ' M' } (dropT fun τ' M' => ∃ m', m' < m ∧ I m' τ' M') τ M1 else nx τ M1
  | .raise c fl as, J, _, τ, M => wpA as (J.ex τ) τ M fun xs M1 => (xs.length = fl.length ∧ xs.length ≤ 500) ∧ ∃ M2, Sg M2 M1 ∧ J.ex τ c (fl.zip xs) M2
  | .tryE b c _ i tup its, J, nx, τ, M => wpS b { J with ex := fun τ' c' fs M' => c' = c ∧ i < τ'.length ∧ ∃ x, suVal τ' fs tup its = some x ∧ J.rt x M' } nx τ M
  | .tryC b c _ i js, J, nx, τ, M => wpS b { J with ex := fun τ' c' fs M' => c' = c ∧ i < τ'.length ∧ fs ≠ [] ∧ ∀ a d φ, M' d = none → wSJs i js ⟨a, d, φ, fs⟩ (fun _ _ _ => False) (τ'.set i (some (.ref a))) (mu M' d (.abs φ [d])) J.rt } nx τ M
  | .tryF b c _ i t j e, J, nx, τ, M => wTryF c i (fun xa => wThen (wIfS (wTor (wpT t) (wTnot fun E τ M Q => wSJ i j xa E τ M fun x M1 => truP x M1 Q)) (wThen (wRet (wpE (.bl false))) wSkip) wSkip) wSkip) (fun J nx τ M => wpS b J nx τ M) (fun J nx τ M => wpS e J nx τ M) J nx τ M
  | .never, _, _, _, _ => False
end Zd

set_option Elab.async false
set_option linter.all false
set_option maxRecDepth 100000
set_option maxHeartbeats 8000000
/-! Zd 8: which text stands for which, and that what is wanted of ours is enough for the model's. -/
namespace Zd
open PySem PySem.Spec PyProof.Rows L2

structure SC where
  N : List Str
  sc : Scope
  st : Str → Bool
  bn : List Str
def visB (sc : Scope) (x : Str) : Bool := match sc.names.lookup x with
  | some .local => true
  | some .cell => true
  | some .free => true
  | _ => false
def glB (sc : Scope) (x : Str) : Bool := match sc.names.lookup x with
  | some .globalImplicit => true
  | _ => false
def okNm (x : Str) : Bool := !(x == ("__debug__" : Str)) && !(x == ("__classdict__" : Str))
def nost : Expr → Bool
  | .Starred _ _ => false
  | _ => true
def plainIx : Expr → Bool
  | .Slice _ _ _ _ => false
  | _ => true
def plainT : Expr → Bool
  | .UnaryOp _ _ _ => false
  | .BoolOp _ _ _ => false
  | .IfExp _ _ _ _ => false
  | .Compare _ _ _ _ => false
  | _ => true
def tupT : Expr → Bool
  | .Tuple _ _ _ => true
  | _ => false
def notSet : Expr → Bool
  | .Set _ _ _ => false
  | _ => true
def notCp : Expr → Bool
  | .ListComp _ _ _ _ => false
  | .SetComp _ _ _ _ => false
  | .DictComp _ _ _ _ _ => false
  | _ => true
def baseB : Expr → Bool
  | .Call _ [] _ _ => false
  | _ => true
def tyNames : List String := ["int", "bool", "str", "tuple", "list", "dict"]
inductive BK where
  | fn (id : String) | ty (T : String)
def bltK : Blt → BK
  | .len => .fn "len"
  | .abs => .fn "abs"
  | .int => .ty "int"
  | .max => .fn "max"
  | .min => .fn "min"
  | .sum => .fn "sum"
  | .tuple => .ty "tuple"
  | .list => .ty "list"
  | .isi => .fn "isinstance"
  | .any => .fn "any"
  | .all => .fn "all"
  | .str => .ty "str"
  | .sorted => .fn "sorted"
def bltN (b : Blt) : Str := match bltK b with
  | .fn id => Str.ofString id
  | .ty T => Str.ofString T
/-- the method's name, whether it has arguments -/
def mthN : Mth → Str × Bool
  | .append => (Str.ofString "append", true)
  | .pop => (Str.ofString "pop", false)
  | .popAt => (Str.ofString "pop", true)
  | .extend => (Str.ofString "extend", true)
  | .bits => (Str.ofString "bit_length", false)
  | .reverse => (Str.ofString "reverse", false)
  | .index => (Str.ofString "index", true)
  | .insert => (Str.ofString "insert", true)
  | .indexT => (Str.ofString "index", true)
def swB (sc : Scope) (value : Expr) (t : Str) (p : Pos) : Bool := match value with
  | .ListComp _ _ s vp => decide (sc.names.lookup t = some .local) && decide (p.line = vp.line) && !(s.names.any fun (n, k) => n == t && (k == .local || k == .cell))
  | .DictComp _ _ _ s vp => decide (sc.names.lookup t = some .local) && decide (p.line = vp.line) && !(s.names.any fun (n, k) => n == t && (k == .local || k == .cell))
  | _ => false
def stIn (c : SC) (scope : Scope) (x : Str) : Bool := (match (relS scope c.sc).names.lookup x with
  | some .local => true
  | _ => false) || match scope.names.lookup x with
    | some .cell => true
    | _ => false
def inSC (c : SC) (scope : Scope) : SC := ⟨c.N, relS scope c.sc, stIn c scope, c.bn⟩
def notNm : Expr → Bool
  | .Name _ _ => false
  | _ => true
def asgB (sc : Scope) (tg value : Expr) : Bool := match tg with
  | .Name t p => match value with
    | .ListComp _ _ s vp => !(swB sc value t p)
    | .SetComp _ _ _ _ => false
    | .DictComp k v gs s vp => !(swB sc (.DictComp k v gs s vp) t p)
    | _ => true
  | .Tuple ts _ _ => match value with
    | .Tuple vs _ _ => vs.all (foldedForSure 8) || ts.any notNm
    | _ => true
  | .Subscript _ i _ => plainIx i
  | _ => false
def parB (sc : Scope) (x y : Str) (px py : Pos) (a b : Expr) : Bool :=
  decide (sc.names.lookup x = some .local) && decide (sc.names.lookup y = some .local) && decide (py.line = px.line) && !(decide (x = y)) && nost a && nost b && !(foldedForSure 8 a && foldedForSure 8 b) && !(constantsAlone 8 a && constantsAlone 8 b)
def bnB (c : SC) (y : Str) (x : String) : Bool := decide (y = Str.ofString x) && glB c.sc y && decide (y ∈ c.bn)
/-- f(a) -/
def xC1 (c : SC) (id : String) (pe : Expr) : Option Expr := match pe with
  | .Call (.Name y _) [pa] [] _ => if bnB c y id && nost pa then some pa else none
  | _ => none
/-- f(range(a)) -/
def xCR1 (c : SC) (id : String) (pe : Expr) : Option Expr := match pe with
  | .Call (.Name y _) [.Call (.Name z _) [pa] [] _] [] _ => if bnB c y id && bnB c z "range" && nost pa then some pa else none
  | _ => none
/-- f(range(a, b)) -/
def xCR2 (c : SC) (id : String) (pe : Expr) : Option (Expr × Expr) := match pe with
  | .Call (.Name y _) [.Call (.Name z _) [pa, pb] [] _] [] _ => if bnB c y id && bnB c z "range" && nost pa && nost pb then some (pa, pb) else none
  | _ => none
def xRvl (pe : Expr) : Option Expr := match pe with
  | .Subscript pa (.Slice none none (some (.UnaryOp .USub (.Constant (.int 1) _ _) _)) _) _ => some pa
  | _ => none
/-- the same text -/
def xAsT (pe : Expr) : Option Expr := match pe with
  | .Name _ _ => some pe
  | .Call _ _ _ _ => some pe
  | .Subscript _ _ _ => some pe
  | _ => none
def xJoin (sep : Str) (pe : Expr) : Option Expr := match pe with
  | .Call (.Attribute (.Constant (.str j) _ _) at_ ap) [pa] [] cp => if decide (at_ = Str.ofString "join") && decide (j = sep) && decide (ap.endLine = cp.line) && nost pa then some pa else none
  | _ => none
def xSrev (c : SC) (pe : Expr) : Option (Expr × Expr) := match pe with
  | .Call (.Name y _) [pa] [⟨some q, pd, _⟩] _ => if bnB c y "sorted" && decide (q = Str.ofString "reverse") && nost pa then some (pa, pd) else none
  | _ => none
def xC3 (c : SC) (id : String) (pe : Expr) : Option (Expr × Expr × Expr) := match pe with
  | .Call (.Name y _) [pa, pb, pd] [] _ => if bnB c y id && nost pa && nost pb && nost pd then some (pa, pb, pd) else none
  | _ => none
/-- an operation's text: where its parts stand -/
def x1 (c : SC) : Op1 → Expr → Option Expr
  | .asT => xAsT
  | .tupF => xC1 c "tuple"
  | .anyi => xC1 c "any"
  | .alli => xC1 c "all"
  | .rvl => xRvl
  | .lrng1 => xCR1 c "list"
  | .join sep => xJoin sep
def x2 (c : SC) : Op2 → Expr → Option (Expr × Expr)
  | .srev => xSrev c
  | .lrng2 => xCR2 c "list"
def y1 (c : SC) : It1 → Expr → Option Expr
  | .rev => xC1 c "reversed"
  | .revr1 => xCR1 c "reversed"
def y2 (c : SC) : It2 → Expr → Option (Expr × Expr)
  | .revr2 => xCR2 c "reversed"
def y3 (c : SC) : It3 → Expr → Option (Expr × Expr × Expr)
  | .rng3 => xC3 c "range"
mutual
def chkE (c : SC) : ZE → Expr → Bool
  | .var i, pe => match pe with
    | .Name x _ => decide (c.N[i]? = some x) && visB c.sc x && okNm x
    | _ => false
  | .int i, pe => match pe with
    | .Constant (.int j) _ _ => decide (i = j)
    | _ => false
  | .bl i, pe => match pe with
    | .Constant (.bool j) _ _ => decide (i = j)
    | _ => false
  | .non, pe => match pe with
    | .Constant .none _ _ => true
    | _ => false
  | .str i, pe => match pe with
    | .Constant (.str j) _ _ => decide (i = j)
    | _ => false
  | .gl x _, pe => match pe with
    | .Name y _ => decide (y = x) && glB c.sc y && okNm y
    | _ => false
  | .ty x, pe => match pe with
    | .Name y _ => decide (y = Str.ofString x) && glB c.sc y && okNm y && decide (y ∈ c.bn) && decide (x ∈ tyNames)
    | _ => false
  | .bin op a b, pe => match pe with
    | .BinOp pa o pb _ => decide (o = op) && chkE c a pa && chkE c b pb
    | _ => false
  | .un op a, pe => match pe with
    | .UnaryOp o pa _ => decide (o = op) && chkE c a pa
    | _ => false
  | .cmp op a b, pe => match pe with
    | .Compare pa [o] [pb] _ => decide (o = op) && !(behindInMarks op pb) && chkE c a pa && chkE c b pb
    | _ => false
  | .chn op op' a b d, pe => match pe with
    | .Compare pa [o, o'] [pb, pd] _ => decide (o = op) && decide (o' = op') && !(lastMarks [op, op'] [pb, pd]) && chkE c a pa && chkE c b pb && chkE c d pd
    | _ => false
  | .vand k, pe => match pe with
    | .BoolOp .And es _ => chkV c k es
    | _ => false
  | .vor k, pe => match pe with
    | .BoolOp .Or es _ => chkV c k es
    | _ => false
  | .vnot a, pe => match pe with
    | .UnaryOp .Not pa _ => chkE c a pa
    | _ => false
  | .ife t a b, pe => match pe with
    | .IfExp pt pa pb _ => chkT c t pt && chkE c a pa && chkE c b pb
    | _ => false
  | .tup as, pe => match pe with
    | .Tuple es _ _ => chkA c as es
    | _ => false
  | .lst as, pe => match pe with
    | .List es _ => chkA c as es
    | _ => false
  | .ix a b, pe => match pe with
    | .Subscript pa pb _ => plainIx pb && chkE c a pa && chkE c b pb
    | _ => false
  | .sl a lo hi, pe => match pe with
    | .Subscript pa (.Slice pl ph none _) _ => chkE c a pa && chkO c lo pl && chkO c hi ph
    | _ => false
  | .call x n _ as, pe => match pe with
    | .Call (.Name y _) es [] _ => decide (y = x) && glB c.sc y && okNm y && decide (es.length = n) && !es.isEmpty && chkA c as es
    | _ => false
  | .blt b as, pe => match pe with
    | .Call (.Name y _) es [] _ => decide (y = bltN b) && glB c.sc y && okNm y && decide (y ∈ c.bn) && !es.isEmpty && chkA c as es
    | _ => false
  | .mth m o as, pe => match pe with
    | .Call (.Attribute po at_ ap) es [] cp => decide (at_ = (mthN m).1) && decide ((mthN m).2 = !es.isEmpty) && baseB po && decide (ap.endLine = cp.line) && decide (es.length < 30) && chkE c o po && chkA c as es
    | _ => false
  | .lc own g it t e, pe => match pe with
    | .ListComp pe [⟨tg, iter, ifs, 0⟩] scope _ => blkC c.N c.sc scope own && notSet iter && chkI c it tg iter && chkV1 (inSC c scope) (own.map (·.2)) g tg && chkIf (inSC c scope) t ifs && chkE (inSC c scope) e pe
    | _ => false
  | .lc2 own g it t vs1 g1 it1 t1 e, pe => match pe with
    | .ListComp pe [⟨tg, iter, ifs, 0⟩, ⟨tg1, iter1, ifs1, 0⟩] scope _ => blkC c.N c.sc scope own && notSet iter && chkI c it tg iter && chkV1 (inSC c scope) (own.map (·.2)) g tg && chkIf (inSC c scope) t ifs && chkE (inSC c scope) e pe
      && notSet iter1 && vs1.all (fun i => decide (i ∈ own.map (·.2))) && chkI (inSC c scope) it1 tg1 iter1 && chkV1 (inSC c scope) vs1 g1 tg1 && chkIf (inSC c scope) t1 ifs1
    | _ => false
  | .dc own g it t kx vx, pe => match pe with
    | .DictComp pk pv [⟨tg, iter, ifs, 0⟩] scope _ => blkC c.N c.sc scope own && notSet iter && chkI c it tg iter && chkV1 (inSC c scope) (own.map (·.2)) g tg && chkIf (inSC c scope) t ifs && chkE (inSC c scope) kx pk && chkE (inSC c scope) vx pv
    | _ => false
  | .dget d k x, pe => match pe with
    | .Call (.Attribute pd at_ ap) [pk, px] [] cp => decide (at_ = Str.ofString "get") && baseB pd && decide (ap.endLine = cp.line) && nost pk && nost px && chkE c d pd && chkE c k pk && chkE c x px
    | _ => false
  | .callK x ks _ as, pe => match pe with
    | .Call (.Name y _) [] kws _ => decide (y = x) && glB c.sc y && okNm y && decide (kws.map (·.arg) = ks.map some) && decide (ks.head? ≠ some excMark) && !ks.isEmpty && chkA c as (kws.map (·.value))
    | _ => false
  | .mnd mx a d, pe => match pe with
    | .Call (.Name y _) [pa] [⟨some q, pd, _⟩] _ => decide (y = mndN mx) && glB c.sc y && decide (y ∈ c.bn) && decide (q = Str.ofString "default") && nost pa && chkE c a pa && chkE c d pd
    | _ => false
  | .dget1 d k, pe => match pe with
    | .Call (.Attribute pd at_ ap) [pk] [] cp => decide (at_ = Str.ofString "get") && baseB pd && decide (ap.endLine = cp.line) && nost pk && chkE c d pd && chkE c k pk
    | _ => false
  | .lvals d, pe => match pe with
    | .Call (.Name y _) [.Call (.Attribute pd at_ ap) [] [] cp] [] _ => decide (y = Str.ofString "list") && glB c.sc y && decide (y ∈ c.bn) && decide (at_ = Str.ofString "values") && baseB pd && decide (ap.endLine = cp.line) && chkE c d pd
    | _ => false
  | .dnew, pe => match pe with
    | .Dict [] [] _ => true
    | _ => false
  | .fmt e, pe => match pe with
    | .FormattedValue p (-1) none _ => chkE c e p
    | _ => false
  | .js as, pe => match pe with
    | .JoinedStr (v1 :: v2 :: rest) _ => chkA c as (v1 :: v2 :: rest)
    | _ => false
  | .op1 o a, pe => match x1 c o pe with
    | some pa => chkE c a pa
    | none => false
  | .op2 o a b, pe => match x2 c o pe with
    | some ps => chkE c a ps.1 && chkE c b ps.2
    | none => false
def chkA (c : SC) : ZA → List Expr → Bool
  | .nil, es => match es with
    | [] => true
    | _ => false
  | .cons e as, es => match es with
    | pe :: r => nost pe && chkE c e pe && chkA c as r
    | [] => false
def chkO (c : SC) : ZO → Option Expr → Bool
  | .none, o => match o with
    | none => true
    | _ => false
  | .some e, o => match o with
    | some pe => chkE c e pe
    | none => false
def chkT (c : SC) : ZT → Expr → Bool
  | .tt, _ => false
  | .tv e, pe => plainT pe && chkE c e pe
  | .cmp op a b, pe => match pe with
    | .Compare pa [o] [pb] _ => decide (o = op) && !(behindInMarks op pb) && chkE c a pa && chkE c b pb
    | _ => false
  | .chn op op' a b d, pe => match pe with
    | .Compare pa [o, o'] [pb, pd] _ => decide (o = op) && decide (o' = op') && !(lastMarks [op, op'] [pb, pd]) && chkE c a pa && chkE c b pb && chkE c d pd
    | _ => false
  | .and k, pe => match pe with
    | .BoolOp .And es _ => chkK c k es
    | _ => false
  | .or k, pe => match pe with
    | .BoolOp .Or es _ => chkK c k es
    | _ => false
  | .not t, pe => match pe with
    | .UnaryOp .Not pa _ => chkT c t pa
    | _ => false
/-- the tests of a comprehension: none, or one -/
def chkIf (c : SC) : ZT → List Expr → Bool
  | .tt, es => match es with
    | [] => true
    | _ => false
  | .tv e, es => match es with
    | [pe] => plainT pe && chkE c e pe
    | _ => false
  | .cmp op a b, es => match es with
    | [.Compare pa [o] [pb] _] => decide (o = op) && !(behindInMarks op pb) && chkE c a pa && chkE c b pb
    | _ => false
  | .chn op op' a b d, es => match es with
    | [.Compare pa [o, o'] [pb, pd] _] => decide (o = op) && decide (o' = op') && !(lastMarks [op, op'] [pb, pd]) && chkE c a pa && chkE c b pb && chkE c d pd
    | _ => false
  | .and k, es => match es with
    | [.BoolOp .And es _] => chkK c k es
    | _ => false
  | .or k, es => match es with
    | [.BoolOp .Or es _] => chkK c k es
    | _ => false
  | .not t, es => match es with
    | [.UnaryOp .Not pa _] => chkT c t pa
    | _ => false
def chkK (c : SC) : ZTK → List Expr → Bool
  | .one t, es => match es with
    | [pe] => chkT c t pe
    | _ => false
  | .cons t k, es => match es with
    | pe :: pf :: r => chkT c t pe && chkK c k (pf :: r)
    | _ => false
def chkV (c : SC) : ZVK → List Expr → Bool
  | .one e, es => match es with
    | [pe] => chkE c e pe
    | _ => false
  | .cons e k, es => match es with
    | pe :: pf :: r => chkE c e pe && chkV c k (pf :: r)
    | _ => false
def chkI (c : SC) : ZI → Expr → Expr → Bool
  | .seq e, _, pe => chkE c e pe
  | .rng1 a, _, pe => match pe with
    | .Call (.Name y _) [pa] [] _ => decide (y = Str.ofString "range") && glB c.sc y && decide (y ∈ c.bn) && nost pa && chkE c a pa
    | _ => false
  | .rng2 a b, _, pe => match pe with
    | .Call (.Name y _) [pa, pb] [] _ => decide (y = Str.ofString "range") && glB c.sc y && decide (y ∈ c.bn) && nost pa && nost pb && chkE c a pa && chkE c b pb
    | _ => false
  | .enum a, tg, pe => match pe with
    | .Call (.Name y _) [pa] [] _ => decide (y = Str.ofString "enumerate") && glB c.sc y && decide (y ∈ c.bn) && nost pa && chkE c a pa && tupT tg
    | _ => false
  | .zip a b, tg, pe => match pe with
    | .Call (.Name y _) [pa, pb] [] _ => decide (y = Str.ofString "zip") && glB c.sc y && decide (y ∈ c.bn) && nost pa && nost pb && chkE c a pa && chkE c b pb && tupT tg
    | _ => false
  | .it1 o a, _, pe => match y1 c o pe with
    | some pa => chkE c a pa
    | none => false
  | .it2 o a b, _, pe => match y2 c o pe with
    | some ps => chkE c a ps.1 && chkE c b ps.2
    | none => false
  | .it3 o a b d, _, pe => match y3 c o pe with
    | some ps => chkE c a ps.1 && chkE c b ps.2.1 && chkE c d ps.2.2
    | none => false
def chkG (c : SC) : ZG → Expr → Bool
  | .nm i, pe => match pe with
    | .Name x _ => decide (c.N[i]? = some x) && c.st x
    | _ => false
  | .tup n gs, pe => match pe with
    | .Tuple es _ _ => decide (es.length = n) && chkGs c gs es
    | _ => false
  | .ix o i, pe => match pe with
    | .Subscript po pi _ => plainIx pi && chkE c o po && chkE c i pi
    | _ => false
def chkGs (c : SC) : ZGs → List Expr → Bool
  | .nil, es => match es with
    | [] => true
    | _ => false
  | .cons g gs, es => match es with
    | pe :: r => nost pe && chkG c g pe && chkGs c gs r
    | [] => false
def chkV1 (c : SC) (vs : List Nat) : ZG → Expr → Bool
  | .nm i, pe => match pe with
    | .Name x _ => decide (c.N[i]? = some x) && c.st x && decide (i ∈ vs)
    | _ => false
  | .tup n gs, pe => match pe with
    | .Tuple es _ _ => decide (es.length = n) && chkVs c vs gs es
    | _ => false
  | .ix _ _, _ => false
def chkVs (c : SC) (vs : List Nat) : ZGs → List Expr → Bool
  | .nil, es => match es with
    | [] => true
    | _ => false
  | .cons g gs, es => match es with
    | pe :: r => nost pe && chkV1 c vs g pe && chkVs c vs gs r
    | [] => false
end
def chkSB (c : SC) (fl : List Str) (n : Str) : SB → Expr → Bool
  | .fld f, e => match e with
    | .Attribute (.Name y _) g _ => decide (y = n) && decide (g = f) && decide (f ∈ fl)
    | _ => false
  | .z z, e => chkE c z e
def chkSA (c : SC) (fl : List Str) (n : Str) : SA → Expr → Bool
  | .one b, e => chkSB c fl n b e
  | .two a b, e => match e with
    | .Tuple [x, y] _ _ => nost x && chkSB c fl n a x && nost y && chkSB c fl n b y
    | _ => false
def chkSJ (c : SC) (fl : List Str) (n : Str) : SJ → Expr → Bool
  | .z z, e => chkE c z e
  | .same x _ _ l r, e => match e with
    | .Call (.Name y _) [p, q] [] _ => decide (y = x) && glB c.sc y && okNm y && nost p && chkSA c fl n l p && nost q && chkSA c fl n r q
    | _ => false
def chkSJl (c : SC) (fl : List Str) (n : Str) : List SJ → List Expr → Bool
  | [], _ => false
  | [s], es => match es with
    | [e] => chkSJ c fl n s e
    | _ => false
  | s :: t :: r, es => match es with
    | e :: es => chkSJ c fl n s e && chkSJl c fl n (t :: r) es
    | _ => false
def chkSJs (c : SC) (fl : List Str) (n : Str) : List SJ → Expr → Bool
  | [], _ => false
  | [s], e => chkSJ c fl n s e
  | s :: t :: r, e => match e with
    | .BoolOp .And es _ => chkSJl c fl n (s :: t :: r) es
    | _ => false
mutual
def chkS (c : SC) : ZS → Stmt → Bool
  | .nil, _ => false
  | .seq _ _, _ => false
  | .pass, ps => match ps with
    | .Pass _ => true
    | _ => false
  | .brk, ps => match ps with
    | .Break _ => true
    | _ => false
  | .cont, ps => match ps with
    | .Continue _ => true
    | _ => false
  | .expr e, ps => match ps with
    | .Expr pe _ => notCp pe && chkE c e pe
    | _ => false
  | .ret e, ps => match ps with
    | .Return (some pe) _ => chkE c e pe
    | _ => false
  | .retn, ps => match ps with
    | .Return none _ => true
    | _ => false
  | .ifs t a b, ps => match ps with
    | .If pt pa pb _ => chkT c t pt && chkB c a pa && chkB c b pb
    | _ => false
  | .asg g e, ps => match ps with
    | .Assign [tg] pe p => chkG c g tg && chkE c e pe && (asgB c.sc tg pe || (match tg with
      | .Name t q => swB c.sc pe t q
      | _ => false))
    | _ => false
  | .par i j a b, ps => match ps with
    | .Assign [.Tuple [.Name x px, .Name y py] _ _] (.Tuple [pa, pb] _ _) _ => decide (c.N[i]? = some x) && decide (c.N[j]? = some y) && parB c.sc x y px py pa pb && chkE c a pa && chkE c b pb
    | _ => false
  | .aug i op e, ps => match ps with
    | .AugAssign (.Name x _) o pe _ => decide (c.N[i]? = some x) && c.st x && decide (o = op) && chkE c e pe
    | _ => false
  | .augx o i op e, ps => match ps with
    | .AugAssign (.Subscript po pi _) q pe _ => decide (q = op) && plainIx pi && chkE c o po && chkE c i pi && chkE c e pe
    | _ => false
  | .fors g it b, ps => match ps with
    | .For tg iter body [] _ => notSet iter && chkI c it tg iter && chkG c g tg && chkB c b body
    | _ => false
  | .whiles t b, ps => match ps with
    | .While pt body [] _ => chkT c t pt && chkB c b body
    | _ => false
  | .raise x fl as, ps => match ps with
    | .Raise (some (.Call (.Name y _) es [] _)) none _ => decide (y = x) && glB c.sc y && okNm y && !es.isEmpty && chkA c as es
    | _ => false
  | .tryE b x fl i tup its, ps => match ps with
    | .Try body [.ExceptHandler (some (.Name y _)) (some n) [.Return (some e) _] _] [] [] _ => decide (y = x) && glB c.sc y && okNm y && decide (c.N[i]? = some n) && decide (c.sc.names.lookup n = some .local) && okNm n && chkSu (fun j y => decide (c.N[j]? = some y) && decide (c.sc.names.lookup y = some .local) && okNm y) (fun y => glB c.sc y && decide (y ∈ c.bn)) fl n tup its e && chkB c b body
    | _ => false
  | .tryC b x fl i js, ps => match ps with
    | .Try body [.ExceptHandler (some (.Name y _)) (some n) [.Return (some e) _] _] [] [] _ => decide (y = x) && glB c.sc y && okNm y && decide (c.N[i]? = some n) && decide (c.sc.names.lookup n = some .local) && okNm n && chkSJs c fl n js e && chkB c b body
    | _ => false
  | .tryF b x fl i t j e, ps => match ps with
    | .Try body [.ExceptHandler (some (.Name y _)) (some n) [.If (.BoolOp .Or [pt, .UnaryOp .Not pj _] _) [.Return (some r) _] [] _] _] orelse [] _ => decide (y = x) && glB c.sc y && okNm y && decide (c.N[i]? = some n) && decide (c.sc.names.lookup n = some .local) && okNm n && chkT c t pt && plainT pj && chkSJ c fl n j pj && chkE c (.bl false) r && chkB c b body && chkB c e orelse
    | _ => false
  | .never, _ => true
def chkB (c : SC) : ZS → List Stmt → Bool
  | .nil, ps => match ps with
    | [] => true
    | _ => false
  | .seq s r, ps => match ps with
    | p :: q => chkS c s p && chkB c r q
    | [] => false
  | _, _ => false
end
/-- what asks for a state in which no exception is handled -/
def bltHc : Blt → Prop → Prop
  | .max, Hc => Hc
  | .min, Hc => Hc
  | .sum, Hc => Hc
  | .any, Hc => Hc
  | .all, Hc => Hc
  | _, _ => True
def forHc : ZI → Prop → Prop
  | .rng1 _, _ => True
  | _, Hc => Hc
mutual
def okE (Hc : Prop) (C : Str → Nat → List Str → ZSp → Prop) (G : Str → PV → Prop) : ZE → Prop
  | .var _ => True
  | .int _ => True
  | .bl _ => True
  | .non => True
  | .str _ => True
  | .gl x v => G x v
  | .ty _ => True
  | .bin _ a b => okE Hc C G a ∧ okE Hc C G b
  | .un _ a => okE Hc C G a
  | .cmp _ a b => okE Hc C G a ∧ okE Hc C G b
  | .chn _ _ a b d => okE Hc C G a ∧ okE Hc C G b ∧ okE Hc C G d
  | .vand k => okV Hc C G k
  | .vor k => okV Hc C G k
  | .vnot a => okE Hc C G a
  | .ife t a b => okT Hc C G t ∧ okE Hc C G a ∧ okE Hc C G b
  | .tup as => okA Hc C G as
  | .lst as => okA Hc C G as
  | .ix a b => okE Hc C G a ∧ okE Hc C G b
  | .sl a lo hi => okE Hc C G a ∧ okO Hc C G lo ∧ okO Hc C G hi
  | .call x n sp as => C x n [] sp ∧ okA Hc C G as
  | .callK x ks sp as => C x 0 ks sp ∧ okA Hc C G as
  | .blt b as => bltHc b Hc ∧ okA Hc C G as
  | .mth _ o as => okE Hc C G o ∧ okA Hc C G as
  | .lc _ _ it t e => Hc ∧ okI Hc C G it ∧ okT Hc C G t ∧ okE Hc C G e
  | .lc2 _ _ it t _ _ it1 t1 e => Hc ∧ okI Hc C G it ∧ okT Hc C G t ∧ okE Hc C G e ∧ okI Hc C G it1 ∧ okT Hc C G t1
  | .dc _ _ it t kx vx => Hc ∧ okI Hc C G it ∧ okT Hc C G t ∧ okE Hc C G kx ∧ okE Hc C G vx
  | .dget d k x => okE Hc C G d ∧ okE Hc C G k ∧ okE Hc C G x
  | .fmt e => okE Hc C G e
  | .dnew => True
  | .dget1 d k => okE Hc C G d ∧ okE Hc C G k
  | .lvals d => Hc ∧ okE Hc C G d
  | .mnd _ a d => Hc ∧ okE Hc C G a ∧ okE Hc C G d
  | .js as => okA Hc C G as
  | .op1 _ a => Hc ∧ okE Hc C G a
  | .op2 _ a b => Hc ∧ okE Hc C G a ∧ okE Hc C G b
def okA (Hc : Prop) (C : Str → Nat → List Str → ZSp → Prop) (G : Str → PV → Prop) : ZA → Prop
  | .nil => True
  | .cons e es => okE Hc C G e ∧ okA Hc C G es
def okO (Hc : Prop) (C : Str → Nat → List Str → ZSp → Prop) (G : Str → PV → Prop) : ZO → Prop
  | .none => True
  | .some e => okE Hc C G e
def okT (Hc : Prop) (C : Str → Nat → List Str → ZSp → Prop) (G : Str → PV → Prop) : ZT → Prop
  | .tt => True
  | .tv e => okE Hc C G e
  | .cmp _ a b => okE Hc C G a ∧ okE Hc C G b
  | .chn _ _ a b d => okE Hc C G a ∧ okE Hc C G b ∧ okE Hc C G d
  | .and k => okK Hc C G k
  | .or k => okK Hc C G k
  | .not t => okT Hc C G t
def okK (Hc : Prop) (C : Str → Nat → List Str → ZSp → Prop) (G : Str → PV → Prop) : ZTK → Prop
  | .one t => okT Hc C G t
  | .cons t k => okT Hc C G t ∧ okK Hc C G k
def okV (Hc : Prop) (C : Str → Nat → List Str → ZSp → Prop) (G : Str → PV → Prop) : ZVK → Prop
  | .one t => okE Hc C G t
  | .cons t k => okE Hc C G t ∧ okV Hc C G k
def okI (Hc : Prop) (C : Str → Nat → List Str → ZSp → Prop) (G : Str → PV → Prop) : ZI → Prop
  | .seq e => okE Hc C G e
  | .rng1 a => okE Hc C G a
  | .rng2 a b => okE Hc C G a ∧ okE Hc C G b
  | .enum a => okE Hc C G a
  | .zip a b => okE Hc C G a ∧ okE Hc C G b
  | .it1 _ a => okE Hc C G a
  | .it2 _ a b => okE Hc C G a ∧ okE Hc C G b
  | .it3 _ a b d => okE Hc C G a ∧ okE Hc C G b ∧ okE Hc C G d
def okG (Hc : Prop) (C : Str → Nat → List Str → ZSp → Prop) (G : Str → PV → Prop) : ZG → Prop
  | .nm _ => True
  | .tup _ gs => okGs Hc C G gs
  | .ix o i => okE Hc C G o ∧ okE Hc C G i
def okGs (Hc : Prop) (C : Str → Nat → List Str → ZSp → Prop) (G : Str → PV → Prop) : ZGs → Prop
  | .nil => True
  | .cons g gs => okG Hc C G g ∧ okGs Hc C G gs
end
def okSB (CH : Str → Nat → List Str → ZSp → Prop) (G : Str → PV → Prop) : SB → Prop
  | .fld _ => True
  | .z e => okE (false = true) CH G e
def okSA (CH : Str → Nat → List Str → ZSp → Prop) (G : Str → PV → Prop) : SA → Prop
  | .one b => okSB CH G b
  | .two a b => okSB CH G a ∧ okSB CH G b
def okSJ (CH : Str → Nat → List Str → ZSp → Prop) (G : Str → PV → Prop) : SJ → Prop
  | .z e => okE (false = true) CH G e
  | .same x n sp l r => CH x n [] sp ∧ okSA CH G l ∧ okSA CH G r
def okSJs (CH : Str → Nat → List Str → ZSp → Prop) (G : Str → PV → Prop) : List SJ → Prop
  | [] => False
  | [s] => okSJ CH G s
  | s :: t :: r => okSJ CH G s ∧ okSJs CH G (t :: r)
def okS (Hc : Prop) (C CH : Str → Nat → List Str → ZSp → Prop) (G : Str → PV → Prop) : ZS → Prop
  | .nil => True
  | .seq s r => okS Hc C CH G s ∧ okS Hc C CH G r
  | .pass => True
  | .brk => True
  | .cont => True
  | .expr e => okE Hc C G e
  | .ret e => okE Hc C G e
  | .retn => True
  | .ifs t a b => okT Hc C G t ∧ okS Hc C CH G a ∧ okS Hc C CH G b
  | .asg g e => okG Hc C G g ∧ okE Hc C G e
  | .par _ _ a b => Hc ∧ okE Hc C G a ∧ okE Hc C G b
  | .aug _ _ e => okE Hc C G e
  | .augx o i _ e => okE Hc C G o ∧ okE Hc C G i ∧ okE Hc C G e
  | .fors g it b => forHc it Hc ∧ okG Hc C G g ∧ okI Hc C G it ∧ okS Hc C CH G b
  | .whiles t b => okT Hc C G t ∧ okS Hc C CH G b
  | .raise x fl as => Hc ∧ C x 0 (excMark :: fl) sp_gcd ∧ okA Hc C G as
  | .tryE b x fl _ _ _ => Hc ∧ C x 0 (excMark :: fl) sp_gcd ∧ okS Hc C CH G b
  | .tryC b x fl _ js => Hc ∧ C x 0 (excMark :: fl) sp_gcd ∧ okS Hc C CH G b ∧ okSJs CH G js
  | .tryF b x fl _ t j e => Hc ∧ C x 0 (excMark :: fl) sp_gcd ∧ okS Hc C CH G b ∧ okT (false = true) CH G t ∧ okSJ CH G j ∧ okS Hc C CH G e
  | .never => True
end Zd

set_option Elab.async false
set_option linter.all false
set_option maxRecDepth 100000
set_option maxHeartbeats 8000000
/-! Zd 9: that what is wanted of ours is enough. -/
namespace Zd
open PySem PySem.Spec PyProof.Rows L2

/-! ### built-ins again -/
section
variable {K : PySem.W.Frag}
theorem cz_any : CallZ K (rAny K) anyP := fun xs vs H M Q' Q sm rx q k => by
  unfold anyP at q
  split at q
  · rename_i p
    obtain ⟨v, rfl, r⟩ := Rs.of1 rx
    obtain rfl := R.of_ref r
    split at q
    · rename_i ys e
      obtain ⟨bs, rfl, q⟩ := q
      obtain ⟨ws, h, rs⟩ := sm.lget e
      rw [rs.toBl] at h
      exact ⟨p, bs, rfl, h, k.now (x := .bl _) sm rfl q⟩
    · exact q.elim
  · exact q.elim
theorem cz_all : CallZ K (rAll K) allP := fun xs vs H M Q' Q sm rx q k => by
  unfold allP at q
  split at q
  · rename_i p
    obtain ⟨v, rfl, r⟩ := Rs.of1 rx
    obtain rfl := R.of_ref r
    split at q
    · rename_i ys e
      obtain ⟨bs, rfl, q⟩ := q
      obtain ⟨ws, h, rs⟩ := sm.lget e
      rw [rs.toBl] at h
      exact ⟨p, bs, rfl, h, k.now (x := .bl _) sm rfl q⟩
    · exact q.elim
  · exact q.elim
theorem cz_str : CallZ K (fun xs H Q => ∃ i, xs = [.int i] ∧ i.natAbs.log2 < 1920 ∧ Q (.str (toString i)) H) strP := fun xs vs H M Q' Q sm rx q k => by
  unfold strP at q
  split at q
  · obtain ⟨v, rfl, r⟩ := Rs.of1 rx
    obtain rfl := R.of_int r
    exact ⟨_, rfl, q.1, k.now (x := .str _) sm rfl q.2⟩
  · exact q.elim
def rSortAll (K : PySem.W.Frag) : List V → Hp → VK → Prop := fun xs H Q => rSortedI K xs H Q ∨ rSortedPT K xs H Q
theorem cz_sorted : CallZ K (rSortAll K) sortedP := fun xs vs H M Q' Q sm rx q k => by
  unfold sortedP at q
  split at q
  · rename_i p
    obtain ⟨v, rfl, r⟩ := Rs.of1 rx
    obtain rfl := R.of_ref r
    split at q
    · rename_i ns e
      exact .inl ⟨p, ns, rfl, sm.ints e, fun ns' l hp ho hl => k _ _ (.ref l) _ (Le.new hl) (sm.new_lst hl (Rs.int ns')) rfl (q ns' hp ho l (sm.fresh hl))⟩
    · split at q
      · rename_i ps e
        cases e2 : lget M p with
        | none => rw [e2] at e; cases e
        | some ys =>
          rw [e2] at e
          obtain rfl := zpairs_of (show zpairs ys = some ps from e)
          obtain ⟨us, h1, h2⟩ := sm.lget e2
          refine .inr ⟨p, us, ps, rfl, h1, pairs_R h2, fun zs qs l hy hp ho hl => ?_⟩
          exact k _ _ (.ref l) _ (Le.new hl) (sm.new_lst hl (R_pairs hy)) rfl (q qs hp ho l (sm.fresh hl))
      · exact q.elim
  · exact q.elim
end
def BK.val : BK → Value
  | .fn id => .builtin id
  | .ty T => .type T
def BK.nm : BK → String
  | .fn id => id
  | .ty T => T
theorem blt_ok {X : Cx} (b : Blt) (hc : bltHc b (X.calm = true)) : (∃ r, CallR X (bltK b).val r ∧ CallZ X.K r (bltP b)) ∧ bootBuiltins (bltN b) = some (bltK b).val ∧ bltN b ≠ "__name__" := by
  cases b with
  | len => exact ⟨⟨_, call_len, cz_len⟩, by decide +kernel, by decide +kernel⟩
  | abs => exact ⟨⟨_, call_abs, cz_abs⟩, by decide +kernel, by decide +kernel⟩
  | int => exact ⟨⟨_, call_int1, cz_int⟩, by decide +kernel, by decide +kernel⟩
  | max => exact ⟨⟨_, (call_max2 hc).or (cr_max hc), cz_max⟩, by decide +kernel, by decide +kernel⟩
  | min => exact ⟨⟨_, (call_min2 hc).or (cr_min hc), cz_min⟩, by decide +kernel, by decide +kernel⟩
  | sum => exact ⟨⟨_, cr_sum hc, cz_sum⟩, by decide +kernel, by decide +kernel⟩
  | tuple => exact ⟨⟨_, call_tuple_of, cz_tuple⟩, by decide +kernel, by decide +kernel⟩
  | list => exact ⟨⟨_, call_list_of, cz_list⟩, by decide +kernel, by decide +kernel⟩
  | isi => exact ⟨⟨_, call_isi, cz_isi⟩, by decide +kernel, by decide +kernel⟩
  | any => exact ⟨⟨_, cr_any hc, cz_any⟩, by decide +kernel, by decide +kernel⟩
  | all => exact ⟨⟨_, cr_all hc, cz_all⟩, by decide +kernel, by decide +kernel⟩
  | str => exact ⟨⟨_, call_str_int, cz_str⟩, by decide +kernel, by decide +kernel⟩
  | sorted => exact ⟨⟨_, cr_sortedI.or cr_sortedPT, cz_sorted⟩, by decide +kernel, by decide +kernel⟩
theorem ty_boot {x : String} (h : x ∈ tyNames) : bootBuiltins (Str.ofString x) = some (.type x) ∧ Str.ofString x ≠ "__name__" := by
  unfold tyNames at h
  simp only [List.mem_cons, List.not_mem_nil, or_false] at h
  rcases h with rfl | rfl | rfl | rfl | rfl | rfl <;> exact ⟨by decide +kernel, by decide +kernel⟩
/-! ### the shapes of the model's texts -/
section
variable {env : Env} {pe : Expr} {es : List Expr} {pos : Pos}
theorem star_of (h : nost pe = true) : starEach (pe :: es) env = (false, eval pe env) :: starEach es env := by
  cases pe <;> first | exact Bool.noConfusion h | rfl
theorem assignEach_of (h : nost pe = true) : assignEach (pe :: es) env = (false, assign pe env) :: assignEach es env := by
  cases pe <;> first | exact Bool.noConfusion h | rfl
theorem backs_of : ∀ {es : List Expr}, es.all nost = true → (backTo pos (starEach es env)).any (·.1) = false
  | [], _ => rfl
  | e :: r, h => by
    rw [List.all_cons, Bool.and_eq_true] at h
    rw [star_of h.1]
    have ih := backs_of (es := r) h.2
    unfold backTo at ih ⊢
    rw [List.map_cons, List.any_cons, ih]
    rfl
theorem assigns_len : ∀ {es : List Expr}, es.all nost = true → (assignEach es env).length = es.length ∧ (assignEach es env).findIdx? (·.1) = none
  | [], _ => ⟨rfl, rfl⟩
  | e :: r, h => by
    rw [List.all_cons, Bool.and_eq_true] at h
    rw [assignEach_of h.1]
    have ih := assigns_len (es := r) h.2
    refine ⟨by rw [List.length_cons, List.length_cons, ih.1], ?_⟩
    rw [List.findIdx?_cons]
    simp [ih.2]
theorem plainIx_of (h : plainIx pe = true) : PlainIx pe := fun o i => by
  cases pe <;> first | exact Bool.noConfusion h | rfl
theorem plainT_of (h : plainT pe = true) : ∀ whole, isTrue pe env whole = (do let v ← whole; standAt pe.pos; holding [v] (truthy v)) := fun whole => by
  cases pe <;> first | exact Bool.noConfusion h | rfl
theorem notSet_of (h : notSet pe = true) : ∀ x, foldedSetIterable pe env x = pure x := fun x => by
  cases pe <;> first | exact Bool.noConfusion h | rfl
theorem notCp_of {t : Option Expr} {l : Nat} (h : notCp pe = true) : swapsWith pe t l env = pure false := by
  cases pe <;> first | exact Bool.noConfusion h | rfl
theorem base_of {n : Str} (h : baseB pe = true) : attributeBase pe n env (eval pe env) = eval pe env := by
  cases pe with
  | Call f as ks p =>
    cases as with
    | nil => exact Bool.noConfusion h
    | cons _ _ => cases f <;> rfl
  | _ => rfl
end
theorem okNm_of {x : Str} (h : okNm x = true) : (x == ("__debug__" : Str)) = false ∧ (x == ("__classdict__" : Str)) = false := by
  unfold okNm at h
  rw [Bool.and_eq_true] at h
  exact ⟨by simpa using h.1, by simpa using h.2⟩
theorem visB_of {sc : Scope} {x : Str} (h : visB sc x = true) : Vis sc x := by
  unfold visB at h
  split at h
  · rename_i e; exact .inl e
  · rename_i e; exact .inr (.inl e)
  · rename_i e; exact .inr (.inr e)
  · cases h
theorem glB_of {sc : Scope} {x : Str} (h : glB sc x = true) : sc.names.lookup x = some .globalImplicit := by
  unfold glB at h
  split at h
  · rename_i e; exact e
  · cases h
structure CtxOk (X : Cx) (c : SC) (k : Nat) : Prop where
  nN : X.N = c.N
  nd : X.N.Nodup
  sc : X.env.scope = c.sc
  ch : X.calm = true ∨ L2H.HotC X
  hu : X.A.units + 65 < cLine
  room : X.calm = true → Room k X.A
  roomH : L2H.RoomH k X.A
  st : ∀ x, c.st x = true → Loc X.env.scope x ∧ (X.fn x = true ∨ X.env.scope.names.lookup x = some .local)
  bn : ∀ x ∈ c.bn, X.mg x = none
abbrev CalC (X : Cx) (k : Nat) (x : Str) (n : Nat) (ks : List Str) (sp : ZSp) : Prop := CalOk X.calm X.prog X.w X.K X.mg X.base k x n ks sp
abbrev CalH (X : Cx) (k : Nat) (x : Str) (n : Nat) (ks : List Str) (sp : ZSp) : Prop := CalOk false X.prog X.w X.K X.mg X.base k x n ks sp
abbrev GOk (X : Cx) (x : Str) (v : PV) : Prop := ∃ u w, X.mg x = some u ∧ RelV w u ∧ ∀ H, R X.K H v w
theorem CtxOk.gl {X : Cx} {c : SC} {k : Nat} {x : Str} (C : CtxOk X c k) (h : glB c.sc x = true) : Gl X x := by
  show X.env.scope.names.lookup x = _
  rw [C.sc]; exact glB_of h
theorem CtxOk.blk {X : Cx} {c : SC} {k : Nat} {scope : Scope} (C : CtxOk X c k) (hc : X.calm = true) (s : Shared) (H : Hp) (a : Addr) (cl : List (Str × Addr)) (fp : List Addr) : CtxOk (X.blk s H scope (compEnvC scope cl a X.env) fp) (inSC c scope) k where
  nN := C.nN
  nd := C.nd
  sc := by
    show relS scope X.env.scope = relS scope c.sc
    rw [C.sc]
  ch := .inl hc
  hu := C.hu
  room := C.room
  roomH := C.roomH
  st := fun x h => by
    have h : stIn c scope x = true := h
    show Loc (relS scope X.env.scope) x ∧ _
    rw [C.sc]
    unfold stIn at h
    rw [Bool.or_eq_true] at h
    rcases h with h | h
    · split at h
      · rename_i e
        refine ⟨.inl e, .inr ?_⟩
        show (relS scope X.env.scope).names.lookup x = _
        rw [C.sc]; exact e
      · cases h
    · split at h
      · rename_i e
        refine ⟨.inr (lookup_relS_keep (by decide) e), .inl ?_⟩
        show (scope.names.lookup x == some .cell) = true
        rw [e]; rfl
      · cases h
  bn := C.bn
theorem chkA_star {c : SC} : ∀ {as : ZA} {es : List Expr}, chkA c as es = true → es.all nost = true
  | .nil, es, h => by
    unfold chkA at h
    split at h
    · rfl
    · cases h
  | .cons e as, es, h => by
    unfold chkA at h
    split at h
    · rw [Bool.and_eq_true, Bool.and_eq_true] at h
      rw [List.all_cons, Bool.and_eq_true]
      exact ⟨h.1.1, chkA_star h.2⟩
    · cases h
theorem chkGs_star {c : SC} : ∀ {as : ZGs} {es : List Expr}, chkGs c as es = true → es.all nost = true
  | .nil, es, h => by
    unfold chkGs at h
    split at h
    · rfl
    · cases h
  | .cons e as, es, h => by
    unfold chkGs at h
    split at h
    · rw [Bool.and_eq_true, Bool.and_eq_true] at h
      rw [List.all_cons, Bool.and_eq_true]
      exact ⟨h.1.1, chkGs_star h.2⟩
    · cases h
theorem chkVs_star {c : SC} {vs : List Nat} : ∀ {as : ZGs} {es : List Expr}, chkVs c vs as es = true → es.all nost = true
  | .nil, es, h => by
    unfold chkVs at h
    split at h
    · rfl
    · cases h
  | .cons e as, es, h => by
    unfold chkVs at h
    split at h
    · rw [Bool.and_eq_true, Bool.and_eq_true] at h
      rw [List.all_cons, Bool.and_eq_true]
      exact ⟨h.1.1, chkVs_star h.2⟩
    · cases h
/-! ### targets of a comprehension -/
mutual
theorem sndV {k : Nat} : ∀ (g : ZG) (X : Cx) (c : SC) (vs : List Nat) (pe : Expr), CtxOk X c k → X.calm = true → chkV1 c vs g pe = true → PG X pe (liftV X.K vs (wpG g))
  | .nm i, X, c, vs, pe, C, hc, h => by
    unfold chkV1 at h
    split at h
    · rw [Bool.and_eq_true, Bool.and_eq_true] at h
      obtain ⟨⟨h1, h2⟩, h3⟩ := h
      obtain ⟨hl, hf⟩ := C.st _ h2
      exact wv_name (pg_name C.nd (by rw [C.nN]; exact of_decide_eq_true h1) hl hf) (of_decide_eq_true h3)
    · cases h
  | .tup n gs, X, c, vs, pe, C, hc, h => by
    unfold chkV1 at h
    split at h
    · rename_i es _ _
      rw [Bool.and_eq_true] at h
      have hl : es.length = n := of_decide_eq_true h.1
      have hs := chkVs_star h.2
      have ih := sndVs gs X c vs es C hc h.2
      refine PG.imp (wv_tup (vs := vs) (n := n) (ws := fun xs τ M Q => xs.length = n ∧ wpGs gs xs τ M Q) hc (PGs.imp ih fun v σ H Q q => ?_) (fun _ _ _ _ q => q.1) (by rw [(assigns_len hs).1, hl]) (assigns_len hs).2) fun v σ H Q q => ?_
      · obtain ⟨P, xs, τ, M, Q', r, st, sm, hq, hk⟩ := q
        exact ⟨P, xs, τ, M, Q', r, st, sm, hq.2, hk⟩
      · obtain ⟨P, x, τ, M, Q', r, st, sm, hq, hk⟩ := q
        exact ⟨P, x, τ, M, Q', r, st, sm, hq, hk⟩
    · cases h
  | .ix _ _, _, _, _, _, _, _, h => by unfold chkV1 at h; cases h
theorem sndVs {k : Nat} : ∀ (gs : ZGs) (X : Cx) (c : SC) (vs : List Nat) (es : List Expr), CtxOk X c k → X.calm = true → chkVs c vs gs es = true → PGs X es (liftVs X.K vs (wpGs gs))
  | .nil, X, c, vs, es, C, hc, h => by
    unfold chkVs at h
    split at h
    · exact wvs_nil
    · cases h
  | .cons g gs, X, c, vs, es, C, hc, h => by
    unfold chkVs at h
    split at h
    · rw [Bool.and_eq_true, Bool.and_eq_true] at h
      refine wvs_cons (sndV g X c vs _ C hc h.1.2) (sndVs gs X c vs _ C hc h.2) ?_
      rw [assignEach_of h.1.1]
      rfl
    · cases h
end
end Zd

set_option Elab.async false
set_option linter.all false
set_option maxRecDepth 100000
set_option maxHeartbeats 8000000
/-! Zd 10: methods. -/
namespace Zd
open PySem PySem.Spec PyProof.Rows L2

/-- a method by values: receiver, arguments -/
def MtZ (K : PySem.W.Frag) (r : V → List V → Hp → VK → Prop) (f : PV → List PV → Mp → ZQ → Prop) : Prop :=
  ∀ {P : Hp} o xs ov vs H M Q' Q, SRm K P H M → R K H o ov → Rs K H xs vs → f o xs M Q' → Cont K P H Q' Q → r ov vs H Q
end Zd
namespace PySem.AutoSeq1
/-! xs.extend(t) of a tuple -/
theorem zd_list_extend_tupT (l : Addr) (items : Array Value) (n : Nat) (b : Addr) (items2 : Array Value) (n2 : Nat) (dd : Option Addr) (sl : Array (Option Value)) (hs0 : ¬(!items.isEmpty && Builtin.List.listTooLong (items.size + items2.size)) = true) (hs1 : items.size ≤ sizeLine) (hs2 : items.size + items2.size ≤ sizeLine + 1) :
    Meets (Builtin.«list.extend» ⟨[.ref l, .ref b], []⟩) (fun _ R s => s.heap.get? l = some { cls := .type "list", dict := none, data := .seq items n, slots := #[] } ∧ s.heap.get? b = some { cls := .type "tuple", dict := dd, data := .seq items2 n2, slots := sl } ∧ R (.ok (.ret Value.none)) { s with heap := s.heap.update l (Obj.mapSeq fun x => x ++ items2), toks := s.toks }) :=
  .of_wp fun prog w A R s h => by
    obtain ⟨hp, g, d, tk, os⟩ := s; obtain ⟨hl, hb, h⟩ := h; have f1 := idx_int; have f2 := sub_tuple_tuple; have f3 := sub_list_list; have f4 := sub_tuple_list; have f5 := sub_list_tuple;
    have hz' : (items ++ items2).size ≤ sizeLine + 1 := by rw [Array.size_append]; exact hs2
    wp_walk using (wpAny_updateSeq hl rfl (hz := hs1) (_hz' := hz')), wpAny_loadPart' hl, wpAny_loadPart' hb; exact ⟨_, rfl, h⟩
end PySem.AutoSeq1
namespace Zd
open PySem PySem.Spec PyProof.Rows L2
def rExtendT (K : PySem.W.Frag) : V → List V → Hp → VK → Prop := fun x vs H Q => ∃ l b xs zs, x = .ref l ∧ vs = [.ref b] ∧ H l = some (.lst xs) ∧ SqT K H b zs ∧ xs.length + zs.length ≤ sizeLine ∧ Q .non (upd H l (.lst (xs ++ zs)))
theorem mt_extendT {X : Cx} : MtM X "list.extend" (rExtendT X.K) := by
  intro pins s σ H x vs v us Q I rx rv h
  obtain ⟨l, b, xs, zs, rfl, rfl, hH, hB, hz, q⟩ := h
  cases rx
  obtain ⟨u, rfl, ru⟩ := rv.one
  cases ru
  obtain ⟨z, its, n, r, hl, e⟩ := I.lstM hH
  obtain ⟨its2, r2, pl, hl2⟩ := I.tuple hB
  obtain ⟨⟨cls, dd, dt, sl⟩, ho, hc, n2, hd⟩ := pl
  simp only at hc hd
  subst hc hd
  have e1 := r2.length
  have hsz : its.toArray.size + its2.toArray.size ≤ sizeLine := by rw [List.size_toArray, List.size_toArray]; omega
  have hlong : ¬ (!its.toArray.isEmpty && Builtin.List.listTooLong (its.toArray.size + its2.toArray.size)) = true := by
    rw [notLongL hsz, Bool.and_false]
    exact Bool.false_ne_true
  refine call_meets PySem.F.slot_list_extend ⟨_, e, rfl⟩ PySem.F.entry_list_extend (PySem.F.args_list_extend_2 _ _)
    (PySem.AutoSeq1.zd_list_extend_tupT l its.toArray n b its2.toArray n2 dd sl hlong (by rw [List.size_toArray]; omega) (by omega)) ⟨e, ho, ?_⟩
  refine ⟨.non, _, I.lset (its' := its ++ its2) hH e (by simp) (r.append r2) ?_, rfl, q⟩
  rw [List.length_append]
  omega
def rExtendA (K : PySem.W.Frag) : V → List V → Hp → VK → Prop := fun x xs H Q => rExtend x xs H Q ∨ rExtendT K x xs H Q
theorem mt_extendA {X : Cx} : MtM X "list.extend" (rExtendA X.K) := by
  intro pins s σ H x vs v us Q I rx rv h
  rcases h with h | h
  · exact mt_extend pins s σ H x vs v us Q I rx rv h
  · exact mt_extendT pins s σ H x vs v us Q I rx rv h
section
variable {K : PySem.W.Frag}
theorem isLst_of {P H : Hp} {M : Mp} {o : PV} {v : V} (sm : SRm K P H M) (r : R K H o v) (h : isLst o M) : tyV K "list" v H := by
  cases o with
  | ref p =>
    obtain rfl := R.of_ref r
    dsimp only [isLst] at h
    cases e : lget M p with
    | none => rw [e] at h; exact h.elim
    | some xs =>
      obtain ⟨vs, sq, _⟩ := sm.lget e
      exact .inl ⟨rfl, vs, sq⟩
  | _ => exact h.elim
theorem mz_append : MtZ K rAppend appendP := fun o xs ov vs H M Q' Q sm ro rx q k => by
  unfold appendP at q
  split at q
  · rename_i p y
    obtain rfl := R.of_ref ro
    obtain ⟨v, rfl, r⟩ := Rs.of1 rx
    split at q
    · rename_i ys e
      obtain ⟨ws, h, rw_⟩ := sm.lst e
      exact ⟨p, ws, v, rfl, rfl, h, by rw [rw_.length]; exact q.1, k _ _ .non _ (Le.lst h) (sm.put_lst e h (rw_.append (Rs.one r))) rfl q.2⟩
    · exact q.elim
  · exact q.elim
theorem mz_pop : MtZ K rPop popP := fun o xs ov vs H M Q' Q sm ro rx q k => by
  unfold popP at q
  split at q
  · rename_i p
    obtain rfl := R.of_ref ro
    obtain rfl := Rs.of0 rx
    split at q
    · rename_i ys e
      obtain ⟨ws, h, rw_⟩ := sm.lst e
      split at q
      · rename_i y e2
        rw [List.getLast?_eq_getElem?] at e2
        obtain ⟨v, h1, h2⟩ := rw_.get e2
        refine ⟨p, ws, v, rfl, rfl, h, by rw [rw_.length]; exact h1, ?_⟩
        exact k _ _ _ _ (Le.lst h) (sm.put_lst e h rw_.dropLast) (R.mono (Le.lst h) _ _ h2) q
      · exact q.elim
    · exact q.elim
  · exact q.elim
theorem mz_popAt : MtZ K rPopAt popAtP := fun o xs ov vs H M Q' Q sm ro rx q k => by
  unfold popAtP at q
  split at q
  · rename_i p i
    obtain rfl := R.of_ref ro
    obtain ⟨v, rfl, r⟩ := Rs.of1 rx
    obtain rfl := R.of_int r
    split at q
    · rename_i ys e
      obtain ⟨ws, h, rw_⟩ := sm.lst e
      obtain ⟨hi, q⟩ := q
      split at q
      · rename_i j e2
        split at q
        · rename_i y e3
          obtain ⟨v, h1, h2⟩ := rw_.get e3
          refine ⟨p, ws, i, j, v, rfl, rfl, h, hi.1, hi.2, by rw [rw_.length]; exact (ixN_seq e2).1, h1, ?_⟩
          exact k _ _ _ _ (Le.lst h) (sm.put_lst e h (rw_.eraseIdx j)) (R.mono (Le.lst h) _ _ h2) q
        · exact q.elim
      · exact q.elim
    · exact q.elim
  · exact q.elim
theorem mz_extend : MtZ K (rExtendA K) extendP := fun o xs ov vs H M Q' Q sm ro rx q k => by
  unfold extendP at q
  split at q
  · rename_i p b
    obtain rfl := R.of_ref ro
    obtain ⟨v, rfl, r⟩ := Rs.of1 rx
    obtain rfl := R.of_ref r
    split at q
    · rename_i ys zs e e2
      obtain ⟨ws, h, rw_⟩ := sm.lst e
      obtain ⟨us, h2, ru⟩ := sm.lst e2
      exact .inl ⟨p, b, ws, us, rfl, rfl, h, h2, by rw [rw_.length, ru.length]; exact q.1, k _ _ .non _ (Le.lst h) (sm.put_lst e h (rw_.append ru)) rfl q.2⟩
    · exact q.elim
  · rename_i p zs
    obtain rfl := R.of_ref ro
    obtain ⟨v, rfl, r⟩ := Rs.of1 rx
    obtain ⟨b, us, rfl, h2, ru⟩ := r
    split at q
    · rename_i ys e
      obtain ⟨ws, h, rw_⟩ := sm.lst e
      exact .inr ⟨p, b, ws, us, rfl, rfl, h, h2, by rw [rw_.length, ru.length]; exact q.1, k _ _ .non _ (Le.lst h) (sm.put_lst e h (rw_.append ru)) rfl q.2⟩
    · exact q.elim
  · exact q.elim
theorem mz_reverse : MtZ K rReverse reverseP := fun o xs ov vs H M Q' Q sm ro rx q k => by
  unfold reverseP at q
  split at q
  · rename_i p
    obtain rfl := R.of_ref ro
    obtain rfl := Rs.of0 rx
    split at q
    · rename_i ys e
      obtain ⟨ws, h, rw_⟩ := sm.lst e
      exact ⟨p, ws, rfl, rfl, h, k _ _ .non _ (Le.lst h) (sm.put_lst e h rw_.reverse) rfl q⟩
    · exact q.elim
  · exact q.elim
theorem Rs.takeZ {H : Hp} : ∀ {xs : List PV} {vs : List V} (n : Nat), Rs K H xs vs → Rs K H (xs.take n) (vs.take n)
  | [], _, n, h => by have e : _ = [] := h; subst e; (first | rw [List.take_nil, List.take_nil] | rw [List.drop_nil, List.drop_nil]); exact rfl
  | x :: xs, vs, 0, h => rfl
  | x :: xs, vs, n + 1, h => by
    obtain ⟨v, ws, rfl, r1, r2⟩ := h
    exact ⟨v, ws.take n, rfl, r1, Rs.takeZ n r2⟩
theorem Rs.dropZ {H : Hp} : ∀ {xs : List PV} {vs : List V} (n : Nat), Rs K H xs vs → Rs K H (xs.drop n) (vs.drop n)
  | [], _, n, h => by have e : _ = [] := h; subst e; (first | rw [List.take_nil, List.take_nil] | rw [List.drop_nil, List.drop_nil]); exact rfl
  | x :: xs, vs, 0, h => h
  | x :: xs, vs, n + 1, h => by
    obtain ⟨v, ws, rfl, r1, r2⟩ := h
    exact Rs.dropZ n r2
def rInsert : V → List V → Hp → VK → Prop := fun x vs H Q => ∃ (l : Addr) (xs : List V) (i : Int) (y : V), x = .ref l ∧ vs = [.int i, y] ∧ H l = some (.lst xs) ∧ xs.length < sizeLine ∧ 0 ≤ i ∧ i < 2 ^ 63 ∧
    Q .non (upd H l (.lst (xs.take i.toNat ++ [y] ++ xs.drop i.toNat)))
theorem mz_insert : MtZ K rInsert insertP := fun o xs ov vs H M Q' Q sm ro rx q k => by
  unfold insertP at q
  split at q
  · rename_i p i y
    obtain rfl := R.of_ref ro
    obtain ⟨v, u, rfl, r, r2⟩ := Rs.of2 rx
    obtain rfl := R.of_int r
    split at q
    · rename_i ys e
      obtain ⟨ws, h, rw_⟩ := sm.lst e
      obtain ⟨⟨q1, q2, q3⟩, q⟩ := q
      refine ⟨p, ws, i, u, rfl, rfl, h, by rw [rw_.length]; exact q1, q2, q3, ?_⟩
      exact k _ _ .non _ (Le.lst h) (sm.put_lst e h (((Rs.takeZ _ rw_).append (Rs.one r2)).append (Rs.dropZ _ rw_))) rfl q
    · exact q.elim
  · exact q.elim
theorem all_get {xs : List PV} {f : PV → Bool} (h : xs.all f = true) {i : Nat} {x : PV} (e : xs[i]? = some x) : f x = true := by
  rw [List.all_eq_true] at h
  exact h x (List.mem_of_getElem? e)
theorem mz_index : MtZ K (rIndex K) indexP := fun o xs ov vs H M Q' Q sm ro rx q k => by
  unfold indexP at q
  split at q
  · rename_i p y
    obtain rfl := R.of_ref ro
    obtain ⟨v, rfl, r⟩ := Rs.of1 rx
    split at q
    · rename_i ys e
      obtain ⟨ws, h, rw_⟩ := sm.lget e
      obtain ⟨⟨f1, f2⟩, q⟩ := q
      split at q
      · rename_i j e2
        have e3 := List.findIdx?_eq_some_iff_getElem.mp e2
        obtain ⟨hj, hy, hm⟩ := e3
        have g : ys[j]? = some ys[j] := List.getElem?_eq_getElem hj
        obtain ⟨z, h1, h2⟩ := rw_.get g
        refine ⟨p, ws, v, j, z, rfl, rfl, h, flat_of r f1, allFlat_of rw_ f2, h1, ?_, fun m z' hm' hz' => ?_, k.now (x := .int j) sm rfl q⟩
        · rw [eqF_of h2 r (all_get f2 g) f1]; exact hy
        · obtain ⟨x', g1, g2⟩ := rw_.getV hz'
          rw [eqF_of g2 r (all_get f2 g1) f1]
          have g3 : m < ys.length := by omega
          have g4 := hm m hm'
          rw [List.getElem?_eq_getElem g3] at g1
          cases g1
          simpa using g4
      · exact q.elim
    · exact q.elim
  · exact q.elim
end
/-! t.index(x) -/
def rIndexT (K : PySem.W.Frag) : V → List V → Hp → VK → Prop := fun x xs H Q => ∃ (a : Addr) (ys : List V) (y : V) (j : Nat) (z : V), x = V.ref a ∧ xs = [y] ∧ SqT K H a ys ∧ flatV y = true ∧ ys.all flatV = true ∧ ys[j]? = some z ∧ eqV z y = true ∧
  (∀ (m : Nat) (z' : V), m < j → ys[m]? = some z' → eqV z' y = false) ∧ Q (.int (j : Nat)) H
theorem mt_indexT {X : Cx} : MtR X "tuple.index" (rIndexT X.K) := by
  intro pins s σ H x xs v us Q I rx rxs h
  obtain ⟨a, ys, y, j, z, rfl, rfl, hs, fy, fys, hz, hzj, hno, q⟩ := h
  cases rx
  cases rxs with
  | cons ry rt =>
    rename_i uy ut
    cases rt
    obtain ⟨its, rv, pl, hlen⟩ := I.tuple hs
    obtain ⟨⟨cls, dd, dt, sl⟩, ho, hc, n, hd⟩ := pl
    simp only at hc hd
    subst hc hd
    obtain ⟨u, hu, ru⟩ := rv.get hz
    obtain ⟨hjl, hje⟩ := List.getElem?_eq_some_iff.mp hu
    have hvl := rv.length
    have hj : j < its.toArray.size := by simpa using hjl
    refine call_meets PySem.F.slot_tuple_index ⟨_, ho, rfl⟩ PySem.F.entry_tuple_index (PySem.F.args_tuple_index_2 _ _)
      (TI.tuple_indexAt a its.toArray n dd sl uy (eqU y) j hj ?_ ?_) ⟨ho, fun u' hu' => mem_eqAt ry fy rv fys u' (by simpa using hu'), ?_⟩
    · have e1 : its.toArray[j] = u := by simpa using hje
      rw [e1, eqU_of ru (flat_at fys hz)]
      exact hzj
    · intro m hm hmj
      have hml : m < its.length := by simpa using hm
      have hmy : m < ys.length := by omega
      have hy' : ys[m]? = some ys[m] := List.getElem?_eq_getElem hmy
      obtain ⟨u2, hu2, ru2⟩ := rv.get hy'
      obtain ⟨_, hme⟩ := List.getElem?_eq_some_iff.mp hu2
      have e1 : its.toArray[m] = u2 := by simpa using hme
      rw [e1, eqU_of ru2 (flat_at fys hy')]
      exact hno m _ hmj hy'
    · exact ⟨.int (j : Nat), H, I.tok _, ⟨_, rfl⟩, q⟩
section
variable {K : PySem.W.Frag}
theorem mz_indexT : MtZ K (rIndexT K) indexTP := fun o xs ov vs H M Q' Q sm ro rx q k => by
  unfold indexTP at q
  split at q
  · rename_i ys y
    obtain ⟨p, ws, rfl, h, rw_⟩ := ro
    have h := h.sq (K := K)
    obtain ⟨v, rfl, r⟩ := Rs.of1 rx
    obtain ⟨⟨f1, f2⟩, q⟩ := q
    split at q
    · rename_i j e2
      have e3 := List.findIdx?_eq_some_iff_getElem.mp e2
      obtain ⟨hj, hy, hm⟩ := e3
      have g : ys[j]? = some ys[j] := List.getElem?_eq_getElem hj
      obtain ⟨z, h1, h2⟩ := rw_.get g
      refine ⟨p, ws, v, j, z, rfl, rfl, h, flat_of r f1, allFlat_of rw_ f2, h1, ?_, fun m z' hm' hz' => ?_, k.now (x := .int j) sm rfl q⟩
      · rw [eqF_of h2 r (all_get f2 g) f1]; exact hy
      · obtain ⟨x', g1, g2⟩ := rw_.getV hz'
        rw [eqF_of g2 r (all_get f2 g1) f1]
        have g3 : m < ys.length := by omega
        have g4 := hm m hm'
        rw [List.getElem?_eq_getElem g3] at g1
        cases g1
        simpa using g4
    · exact q.elim
  · exact q.elim
end
section
variable {X : Cx} {W : L2.WX} {po e : Expr} {es : List Expr} {wo : ZWe} {wa : ZWa} {name : Str} {ap cp : Pos} {id : String} {r : V → List V → Hp → VK → Prop} {f : PV → List PV → Mp → ZQ → Prop}
def wMthL (f : PV → List PV → Mp → ZQ → Prop) (wo : ZWe) (wa : ZWa) : ZWe := fun E τ M Q => wo E τ M fun x M1 => isLst x M1 ∧ wa E τ M1 fun xs M2 => f x xs M2 Q
theorem we_mthL (slot : Slot "list" name id) (hty : typeOf (.builtin id) = pure (.type "method_descriptor")) (hm : MtR X id r) (hz : MtZ X.K r f) (ho : WE X W po wo) (ha : WA X W (e :: es) wa)
    (hb : baseB po = true) (hl : ap.endLine = cp.line) (hf : (e :: es).length < 30) (hn : (e :: es).all nost = true) : WE X W (.Call (.Attribute po name ap) (e :: es) [] cp) (wMthL f wo wa) := by
  have h1 : nost e = true ∧ es.all nost = true := by rw [List.all_cons, Bool.and_eq_true] at hn; exact hn
  have h2 : ∀ l : List Expr, l.all nost = true → (backTo cp (starEach l X.env)).all (fun x => !x.1) = true := fun l hl => by
    have h := backs_of (env := X.env) (pos := cp) hl
    rw [List.all_eq_not_any_not]
    simp only [Bool.not_not]
    rw [h]
    rfl
  have hfew : ((backTo cp (starEach (e :: es) X.env)).all (fun x => !x.1) && (backToKw cp (keywordEach [] X.env)).all (fun x => x.1.isSome)
      && decide ((e :: es).length + ([] : List Keyword).length + (if ([] : List Keyword).isEmpty then 0 else 1) < 30)) = true := by
    rw [h2 _ hn, Bool.true_and, Bool.and_eq_true]
    exact ⟨rfl, decide_eq_true (by simpa using hf)⟩
  refine PE.imp (pe_bm PySem.F.plainAttrs_list slot hty hm ho ha (base_of hb) hfew (by rw [hl]; simp) (star_of h1.1) (backs_of h1.2)) fun σ H Q h => ?_
  obtain ⟨P, E, τ, M, Q', st, sm, hw, hc, hE⟩ := h
  refine ⟨P, E, τ, M, _, st, sm, hw, fun v H1 x M1 l1 sm1 r1 h1 => ?_, hE⟩
  refine ⟨isLst_of sm1 r1 h1.1, P, E, τ, M1, _, st.mono l1, sm1, h1.2, fun vs H2 xs M2 l2 sm2 r2 h2 => ?_, hE.mono l1⟩
  exact hz x xs v vs H2 M2 Q' Q sm2 (R.mono l2 _ _ r1) r2 h2 (hc.mono (l1.trans l2))
/-- o.m(..), o a tuple without own names -/
def tBMN (r : V → List V → Hp → VK → Prop) (to : TE) (t : TA) : TE := fun σ H Q => to σ H fun x H1 => (∃ a ys, x = V.ref a ∧ SqN H1 a ys) ∧ t σ H1 fun xs H2 => r x xs H2 Q
theorem pe_bmN {o e : Expr} {es : List Expr} {to : TE} {t : TA} {name : Str} {apos cpos : Pos} {id : String} {r : V → List V → Hp → VK → Prop} (pa : PlainAttrs "tuple") (slot : Slot "tuple" name id) (hty : typeOf (.builtin id) = pure (.type "method_descriptor")) (hm : MtR X id r) (ho : PE X o to) (ha : PA X (e :: es) t)
    (hbase : attributeBase o name X.env (eval o X.env) = eval o X.env)
    (hfew : ((backTo cpos (starEach (e :: es) X.env)).all (fun x => !x.1) && (backToKw cpos (keywordEach [] X.env)).all (fun x => x.1.isSome)
      && decide ((e :: es).length + ([] : List Keyword).length + (if ([] : List Keyword).isEmpty then 0 else 1) < 30)) = true)
    (hline : (apos.endLine == cpos.line) = true) (hs : starEach (e :: es) X.env = (false, eval e X.env) :: starEach es X.env) (hplain : (backTo cpos (starEach es X.env)).any (·.1) = false) :
    PE X (.Call (.Attribute o name apos) (e :: es) [] cpos) (tBMN r to t) := by
  refine ⟨fun pins s σ H Q I h => ?_⟩
  refine wpAny_Call_method_late hbase hfew hline rfl (thn (ho.run pins s σ H _ I h) fun v s1 ⟨x, H1, I1, r1, ty, q1⟩ => ?_)
  obtain ⟨a, ys, rfl, ob, hk, hc, hd⟩ := ty
  cases r1
  obtain ⟨e1, _⟩ := I1.hok a _ hk
  refine ⟨"tuple", id, pa, slot, hty, ⟨ob, e1, hc⟩, fun b eb => by cases eb; exact ⟨ob, e1, hd⟩, ?_⟩
  have hA := ha.run cpos pins s1 σ H1 _ I1 q1
  rw [hs] at hA ⊢
  refine Calls.callWith_builtin (by show (false || (backTo cpos (starEach es X.env)).any (·.1)) = false; rw [hplain] <;> rfl) (Calls.evalArgs_plain ?_)
  exact thn hA fun us s2 ⟨vs, H2, I2, r2, q2⟩ => hm pins s2 σ H2 (.ref a) vs _ us Q I2 rfl r2 q2
theorem we_mthT (ho : WE X W po wo) (ha : WA X W (e :: es) wa)
    (hb : baseB po = true) (hl : ap.endLine = cp.line) (hf : (e :: es).length < 30) (hn : (e :: es).all nost = true) : WE X W (.Call (.Attribute po (Str.ofString "index") ap) (e :: es) [] cp) (fun E τ M Q => wo E τ M fun x M1 => isTupO x ∧ wa E τ M1 fun xs M2 => indexTP x xs M2 Q) := by
  have h1 : nost e = true ∧ es.all nost = true := by rw [List.all_cons, Bool.and_eq_true] at hn; exact hn
  have h2 : ∀ l : List Expr, l.all nost = true → (backTo cp (starEach l X.env)).all (fun x => !x.1) = true := fun l hl => by
    have h := backs_of (env := X.env) (pos := cp) hl
    rw [List.all_eq_not_any_not]
    simp only [Bool.not_not]
    rw [h]
    rfl
  have hfew : ((backTo cp (starEach (e :: es) X.env)).all (fun x => !x.1) && (backToKw cp (keywordEach [] X.env)).all (fun x => x.1.isSome)
      && decide ((e :: es).length + ([] : List Keyword).length + (if ([] : List Keyword).isEmpty then 0 else 1) < 30)) = true := by
    rw [h2 _ hn, Bool.true_and, Bool.and_eq_true]
    exact ⟨rfl, decide_eq_true (by simpa using hf)⟩
  refine PE.imp (pe_bmN PySem.F.plainAttrs_tuple PySem.F.slot_tuple_index PySem.F.type_tuple_index mt_indexT ho ha (base_of hb) hfew (by rw [hl]; simp) (star_of h1.1) (backs_of h1.2)) fun σ H Q h => ?_
  obtain ⟨P, E, τ, M, Q', st, sm, hw, hc, hE⟩ := h
  refine ⟨P, E, τ, M, _, st, sm, hw, fun v H1 x M1 l1 sm1 r1 h1 => ?_, hE⟩
  have hT : ∃ a ys, v = V.ref a ∧ SqN H1 a ys := by
    have h3 := h1.1
    cases x with
    | ftu ys => obtain ⟨a, ws, rfl, sa, ra⟩ := r1; exact ⟨a, ws, rfl, sa⟩
    | _ => exact h3.elim
  refine ⟨hT, P, E, τ, M1, _, st.mono l1, sm1, h1.2, fun vs H2 xs M2 l2 sm2 r2 h2 => ?_, hE.mono l1⟩
  exact mz_indexT x xs v vs H2 M2 Q' Q sm2 (R.mono l2 _ _ r1) r2 h2 (hc.mono (l1.trans l2))
theorem we_mthL0 (slot : Slot "list" name id) (hty : typeOf (.builtin id) = pure (.type "method_descriptor")) (hm : MtR X id r) (hz : MtZ X.K r f) (ho : WE X W po wo)
    (hb : baseB po = true) (hl : ap.endLine = cp.line) : WE X W (.Call (.Attribute po name ap) [] [] cp) (wMthL f wo wNil) := by
  refine PE.imp (pe_bm0 PySem.F.plainAttrs_list slot hty hm ho (base_of hb) (by rw [hl]; simp)) fun σ H Q h => ?_
  obtain ⟨P, E, τ, M, Q', st, sm, hw, hc, hE⟩ := h
  refine ⟨P, E, τ, M, _, st, sm, hw, fun v H1 x M1 l1 sm1 r1 h1 => ?_, hE⟩
  exact ⟨isLst_of sm1 r1 h1.1, hz x [] v [] H1 M1 Q' Q sm1 r1 rfl h1.2 (hc.mono l1)⟩
theorem we_bits (ho : WE X W po wo) (hb : baseB po = true) (hl : ap.endLine = cp.line) : WE X W (.Call (.Attribute po (Str.ofString "bit_length") ap) [] [] cp) (fun E τ M Q => wo E τ M fun x M1 => True ∧ bitsP x M1 Q) :=
  PE.imp (pe_bits ho (base_of hb) (by rw [hl]; simp)) fun σ H Q h => by
    obtain ⟨P, E, τ, M, Q', st, sm, hw, hc, hE⟩ := h
    refine ⟨P, E, τ, M, _, st, sm, hw, fun v H1 x M1 l1 sm1 r1 h1 => ?_, hE⟩
    cases x with
    | int i => exact ⟨i, r1, hc _ _ (.int _) _ l1 sm1 rfl h1.2⟩
    | _ => exact h1.2.elim
end
/-- each method, without arguments -/
theorem mth_ok0 {X : Cx} {W : L2.WX} (m : Mth) {po : Expr} {wo : ZWe} {ap cp : Pos} (ho : WE X W po wo) (he : (mthN m).2 = false) (hb : baseB po = true) (hl : ap.endLine = cp.line) :
    WE X W (.Call (.Attribute po (mthN m).1 ap) [] [] cp) (fun E τ M Q => wo E τ M fun x M1 => mthO m x M1 ∧ mthP m x [] M1 Q) := by
  cases m with
  | pop => exact we_mthL0 PySem.F.slot_list_pop PySem.F.type_list_pop mt_pop mz_pop ho hb hl
  | reverse => exact we_mthL0 PySem.F.slot_list_reverse PySem.F.type_list_reverse mt_reverse mz_reverse ho hb hl
  | bits =>
    exact we_bits ho hb hl
  | _ => exact Bool.noConfusion he
/-- .. with arguments -/
theorem mth_ok1 {X : Cx} {W : L2.WX} (m : Mth) {po e : Expr} {es : List Expr} {wo : ZWe} {wa : ZWa} {ap cp : Pos} (ho : WE X W po wo) (ha : WA X W (e :: es) wa) (he : (mthN m).2 = true)
    (hb : baseB po = true) (hl : ap.endLine = cp.line) (hf : (e :: es).length < 30) (hn : (e :: es).all nost = true) :
    WE X W (.Call (.Attribute po (mthN m).1 ap) (e :: es) [] cp) (fun E τ M Q => wo E τ M fun x M1 => mthO m x M1 ∧ wa E τ M1 fun xs M2 => mthP m x xs M2 Q) := by
  cases m with
  | append => exact we_mthL PySem.F.slot_list_append PySem.F.type_list_append mt_append mz_append ho ha hb hl hf hn
  | popAt => exact we_mthL PySem.F.slot_list_pop PySem.F.type_list_pop mt_popAt mz_popAt ho ha hb hl hf hn
  | extend => exact we_mthL PySem.F.slot_list_extend PySem.F.type_list_extend mt_extendA mz_extend ho ha hb hl hf hn
  | insert => exact we_mthL PySem.F.slot_list_insert PySem.F.type_list_insert mt_insert mz_insert ho ha hb hl hf hn
  | indexT => exact we_mthT ho ha hb hl hf hn
  | index => exact we_mthL PySem.F.slot_list_index PySem.F.type_list_index mt_index mz_index ho ha hb hl hf hn
  | _ => exact Bool.noConfusion he
/-! d.get(k, x) -/
section
variable {X : Cx} {W : L2.WX} {d e f : Expr} {wd we wf : ZWe} {ap cp : Pos}
theorem we_dget2 (hu : X.A.units + 1 < cLine) (hd : WE X W d wd) (he : WE X W e we) (hf : WE X W f wf) (hb : baseB d = true) (hl : ap.endLine = cp.line) (n1 : nost e = true) (n2 : nost f = true) :
    WE X W (.Call (.Attribute d (Str.ofString "get") ap) [e, f] [] cp) (fun E τ M Q => wd E τ M fun o M1 => (dicOf o M1).isSome = true ∧ we E τ M1 fun k M2 => wf E τ M2 fun x M3 => dgetP o k M3 fun r => Q (r.getD x) M3) := by
  have s1 : starEach [e, f] X.env = [(false, eval e X.env), (false, eval f X.env)] := by
    cases e <;> cases f <;> first | rfl | exact Bool.noConfusion n1 | exact Bool.noConfusion n2
  have s2 : backTo cp (starEach [e, f] X.env) = [(false, eval e X.env), (false, eval f X.env)] := by rw [s1]; rfl
  refine PE.imp (pe_dget2 hu hd he hf ⟨base_of hb, by rw [s2]; rfl, by rw [hl]; simp, s2⟩) fun σ H Q h => ?_
  obtain ⟨P, E, τ, M, Q', st, sm, hw, hc, hE⟩ := h
  refine ⟨P, E, τ, M, _, st, sm, hw, fun v H1 o M1 l1 sm1 r1 h1 => ?_, hE⟩
  obtain ⟨hs, h1⟩ := h1
  cases e0 : dicOf o M1 with
  | none => rw [e0] at hs; cases hs
  | some kvs =>
    obtain ⟨a, ws, rfl, ho, ha, _⟩ := dic_of sm1 r1 e0
    refine ⟨a, rfl, .inl ⟨ws, .inl ha⟩, P, E, τ, M1, _, st.mono l1, sm1, h1, fun y H2 k M2 l2 sm2 r2 h2 => ?_, hE.mono l1⟩
    refine ⟨P, E, τ, M2, _, (st.mono l1).mono l2, sm2, h2, fun z H3 x M3 l3 sm3 r3 h3 => ?_, (hE.mono l1).mono l2⟩
    dsimp only [dgetP] at h3
    cases e3 : dicOf o M3 with
    | none => rw [e3] at h3; exact h3.elim
    | some kvs' =>
      rw [e3] at h3
      obtain ⟨q, hq, h3⟩ := h3
      obtain ⟨a', ws', ea, ho', ha', rk⟩ := dic_of (v := .ref a) sm3 (by subst ho; rfl) e3
      cases ea
      have ek := keyOf_R (R.mono l3 _ _ r2) hq
      subst ek
      rcases kr_val q rk with ⟨g1, g2⟩ | ⟨u, u', g1, g2, ru⟩
      · rw [g1] at h3
        exact ⟨none, by rw [← g2]; exact DGet.k ha', hc _ _ _ _ ((l1.trans l2).trans l3) sm3 r3 h3⟩
      · rw [g1] at h3
        exact ⟨some u', by rw [← g2]; exact DGet.k ha', hc _ _ _ _ ((l1.trans l2).trans l3) sm3 ru h3⟩
theorem rs_snd {K : PySem.W.Frag} {H : Hp} {kvs : List (Key × PV)} {ws : List (Key × V)} (r : Paired (fun p q => p.1 = q.1 ∧ R K H p.2 q.2) kvs ws) : Rs K H (kvs.map (·.2)) (ws.map (·.2)) := by
  induction r with
  | nil => rfl
  | cons a _ ih => exact ⟨_, _, rfl, a.2, ih⟩
theorem we_lvals {p pos : Pos} (hcm : X.calm = true) (hg : Gl X (Str.ofString "list")) (hm : X.mg (Str.ofString "list") = none) (hd : WE X W d wd) (hb : baseB d = true) (hl : ap.endLine = cp.line) :
    WE X W (.Call (.Name (Str.ofString "list") p) [.Call (.Attribute d (Str.ofString "values") ap) [] [] cp] [] pos) (fun E τ M Q => wd E τ M fun o M1 => lvalsP o M1 Q) := by
  refine PE.imp (pe_listVals hcm hd hg hm (by decide +kernel) (base_of hb) (by rw [hl]; simp) rfl) fun σ H Q h => ?_
  obtain ⟨P, E, τ, M, Q', st, sm, hw, hc, hE⟩ := h
  refine ⟨P, E, τ, M, _, st, sm, hw, fun v H1 o M1 l1 sm1 r1 h1 => ?_, hE⟩
  replace h1 : lvalsP o M1 Q' := h1
  unfold lvalsP at h1
  cases e0 : dicOf o M1 with
  | none => rw [e0] at h1; exact h1.elim
  | some kvs =>
    rw [e0] at h1
    obtain ⟨a, ws, rfl, ho, ha, rk⟩ := dic_of sm1 r1 e0
    exact ⟨a, ws, rfl, ha, fun p hp => hc _ _ (.ref p) _ (l1.trans (Le.new hp)) (sm1.new_lst hp (rs_snd rk)) rfl (h1 p (sm1.fresh hp))⟩
theorem we_dget1 (hu : X.A.units + 1 < cLine) (hd : WE X W d wd) (he : WE X W e we) (hb : baseB d = true) (hl : ap.endLine = cp.line) (n1 : nost e = true) :
    WE X W (.Call (.Attribute d (Str.ofString "get") ap) [e] [] cp) (fun E τ M Q => wd E τ M fun o M1 => (dicOf o M1).isSome = true ∧ we E τ M1 fun k M2 => dgetP o k M2 fun r => Q (r.getD .non) M2) := by
  have s1 : starEach [e] X.env = [(false, eval e X.env)] := by
    cases e <;> first | rfl | exact Bool.noConfusion n1
  have s2 : backTo cp (starEach [e] X.env) = [(false, eval e X.env)] := by rw [s1]; rfl
  refine PE.imp (pe_dget1 hu hd he ⟨base_of hb, by rw [s2]; rfl, by rw [hl]; simp, s2⟩) fun σ H Q h => ?_
  obtain ⟨P, E, τ, M, Q', st, sm, hw, hc, hE⟩ := h
  refine ⟨P, E, τ, M, _, st, sm, hw, fun v H1 o M1 l1 sm1 r1 h1 => ?_, hE⟩
  obtain ⟨hs, h1⟩ := h1
  cases e0 : dicOf o M1 with
  | none => rw [e0] at hs; cases hs
  | some kvs =>
    obtain ⟨a, ws, rfl, ho, ha, _⟩ := dic_of sm1 r1 e0
    refine ⟨a, rfl, .inl ⟨ws, .inl ha⟩, P, E, τ, M1, _, st.mono l1, sm1, h1, fun y H2 k M2 l2 sm2 r2 h2 => ?_, hE.mono l1⟩
    dsimp only [dgetP] at h2
    cases e3 : dicOf o M2 with
    | none => rw [e3] at h2; exact h2.elim
    | some kvs' =>
      rw [e3] at h2
      obtain ⟨q, hq, h2⟩ := h2
      obtain ⟨a', ws', ea, ho', ha', rk⟩ := dic_of (v := .ref a) sm2 (by subst ho; rfl) e3
      cases ea
      have ek := keyOf_R r2 hq
      subst ek
      rcases kr_val q rk with ⟨g1, g2⟩ | ⟨u, u', g1, g2, ru⟩
      · rw [g1] at h2
        exact ⟨none, by rw [← g2]; exact DGet.k ha', hc _ _ .non _ (l1.trans l2) sm2 rfl h2⟩
      · rw [g1] at h2
        exact ⟨some u', by rw [← g2]; exact DGet.k ha', hc _ _ _ _ (l1.trans l2) sm2 ru h2⟩
end
end Zd

set_option Elab.async false
set_option linter.all false
set_option maxRecDepth 100000
set_option maxHeartbeats 8000000
/-! Zd 26: operations of one and two values, walks of one, two and three: that what is wanted of ours is enough. -/
namespace Zd
open PySem PySem.Spec PyProof.Rows L2

section
variable {prog : Program} {w : World} {A : Around} {E : Value → Shared → Prop} {s : Shared}
theorem sliceApplied_rev {sl : Addr} {n : Nat} {vk : Value} {Q : Int × Int × Nat → Shared → Prop} (hs : s.heap.IsSliceOf sl .none .none vk) (pk : IsPart vk (some (-1)))
    (h : Q ((n : Int) - 1, -1, n) s) : wpAny (model prog w) A (Builtin.Slice.sliceApplied (.ref sl) (pure (n : Int))) Q E s := by
  obtain ⟨os, hos, hcs, hds⟩ := id hs
  unfold Builtin.Slice.sliceApplied Builtin.Slice.sliceFields
  refine wpAny_bind (wpAny_bind (wpAny_field hos hds (x := .none) rfl (wpAny_bind (wpAny_field hos hds (x := .none) rfl (wpAny_bind (wpAny_field hos hds (x := vk) rfl (wpAny_pure ?_)))))))
  refine wpAny_bind (HT.slicePart_ pk ?_)
  show wpAny _ _ (if ((-1 : Int) == 0) = true then _ else _) _ _ s
  rw [if_neg (by decide)]
  refine wpAny_bind (HT.slicePart_ .none (wpAny_bind (HT.slicePart_ .none (wpAny_bind (wpAny_pure ?_)))))
  show wpAny _ _ (match Builtin.Slice.sliceAdjust none none (-1) (n : Int) with | (lo, hi) => pure (lo, (-1 : Int), Builtin.Slice.slicePlaces lo hi (-1))) _ _ s
  have e1 : Builtin.Slice.sliceAdjust none none (-1) (n : Int) = ((n : Int) - 1, -1) := rfl
  rw [e1]
  show wpAny _ _ (pure ((n : Int) - 1, (-1 : Int), Builtin.Slice.slicePlaces ((n : Int) - 1) (-1) (-1))) _ _ s
  have e2 : Builtin.Slice.slicePlaces ((n : Int) - 1) (-1) (-1) = n := by
    unfold Builtin.Slice.slicePlaces
    rw [if_neg (by decide), show -(-1 : Int) = 1 from rfl, Int.ediv_one]
    split <;> omega
  rw [e2]
  exact wpAny_pure h
theorem pick_rev (xs : Array Value) : ((List.range xs.size).filterMap fun (m : Nat) => xs[((xs.size : Int) - 1 + (m : Int) * (-1)).toNat]?).toArray = xs.toList.reverse.toArray := by
  congr 1
  obtain ⟨l⟩ := xs
  simp only [List.size_toArray]
  have h : ∀ m ∈ List.range l.length, (l.toArray)[((l.length : Int) - 1 + (m : Int) * (-1)).toNat]? = l.reverse[m]? := fun m hm => by
    have hm := List.mem_range.mp hm
    rw [List.getElem?_reverse hm, List.getElem?_toArray]
    congr 1
    omega
  have e : ∀ k : List Nat, (∀ m ∈ k, m < l.length) → (k.filterMap fun (m : Nat) => (l.toArray)[((l.length : Int) - 1 + (m : Int) * (-1)).toNat]?) = k.filterMap fun m => l.reverse[m]? := fun k => by
    induction k with
    | nil => intro _; rfl
    | cons a k ih =>
      intro hk
      rw [List.filterMap_cons, List.filterMap_cons, h a (List.mem_range.mpr (hk a List.mem_cons_self)), ih fun m hm => hk m (List.mem_cons_of_mem _ hm)]
  rw [e _ fun m hm => List.mem_range.mp hm]
  have e2 : ∀ r : List Value, (List.range r.length).filterMap (fun m => r[m]?) = r := fun r => by
    have : ∀ (r : List Value) (k : Nat) (pre : List Value), pre.length = k → (List.range' k r.length).filterMap (fun m => (pre ++ r)[m]?) = r := by
      intro r
      induction r with
      | nil => intro k pre _; rfl
      | cons x r ih =>
        intro k pre hk
        rw [List.length_cons, List.range'_succ, List.filterMap_cons]
        have e1 : (pre ++ x :: r)[k]? = some x := by rw [← hk]; simp
        rw [e1]
        have := ih (k + 1) (pre ++ [x]) (by simp; omega)
        rw [List.append_assoc] at this
        show x :: _ = _
        congr 1
    have := this r 0 [] rfl
    rw [← List.range_eq_range'] at this
    simpa using this
  have := e2 l.reverse
  rw [List.length_reverse] at this
  exact this
theorem getItem_tuple_rev {t sl : Addr} {items : Array Value} {vk : Value} {Q : Value → Shared → Prop} (ht : PyProof.Rows.IsTup s.heap t items) (hs : s.heap.IsSliceOf sl .none .none vk) (pk : IsPart vk (some (-1)))
    (h : Q (.ref s.heap.objs.size) { s with heap := s.heap.push { cls := .type "tuple", data := .seq items.toList.reverse.toArray } })
    (hsz : items.size ≤ sizeLine) : wpAny (model prog w) A (getItem (.ref t) (.ref sl)) Q E s := by
  have htake : sizeOk (.seq items.toList.reverse.toArray) := by
    show items.toList.reverse.toArray.size ≤ sizeLine
    rw [List.size_toArray, List.length_reverse, Array.length_toList]
    omega
  obtain ⟨os, hos, hcs, hds⟩ := id hs
  have hTs : s.TypeIs (.ref sl) "slice" := ⟨os, hos, hcs⟩
  unfold getItem
  try with_reducible refine wpAny_holding ?_
  first | refine wpAny_bind (wpAny_pure ?_) | skip
  refine wpAny_bind (wpAny_sequenceKey ht.typeIs (by decide) ?_)
  refine wpAny_bind (wpAny_callSpecial?_slot (name := Str.ofString "__getitem__") ht.typeIs PyProof.Rows.slot_tuple_getitem
    (wpAny_call_entry PyProof.Rows.slot_tuple_getitem ht.typeIs entry_tuple_getitem ?_ (args_tuple_getitem _ _)))
  show wpAny _ _ (Builtin.Tuple.tupleItemsOf (.ref t) >>= _) _ _ s
  refine wpAny_bind (PyProof.Rows.tupleItemsOf_ ht ?_)
  refine wpAny_bind (wpAny_typeOf hTs ?_)
  rw [if_pos (by decide)]
  refine wpAny_bind (sliceApplied_rev hs pk ?_)
  show wpAny _ _ (if (((items.size : Int) - 1) == 0 && (-1 : Int) == 1 && items.size == items.size) = true then _ else _) _ _ s
  rw [if_neg (by simp), pick_rev]
  first
    | exact wpAny_bind (m := Builtin.Tuple.tupleExact _) (wpAny_newObj_type (wpAny_pure ⟨_, rfl, wpAny_pure h⟩) htake)
    | exact wpAny_bind (m := Builtin.Tuple.tupleExact _) (wpAny_newObj_type (wpAny_bind (wpAny_pure (wpAny_pure ⟨_, rfl, wpAny_pure h⟩))) htake)
    | exact wpAny_bind (wpAny_bind (m := Builtin.Tuple.tupleExact _) (wpAny_newObj_type (wpAny_pure (wpAny_pure ⟨_, rfl, wpAny_pure h⟩)) htake))
    | exact wpAny_bind (wpAny_bind (m := Builtin.Tuple.tupleExact _) (wpAny_newObj_type (wpAny_pure ⟨_, rfl, wpAny_pure h⟩) htake))
end
def tRevA (K : PySem.W.Frag) (te : TE) : TE := fun σ H Q => te σ H fun x H1 => ∃ a xs, x = .ref a ∧ ((SqL K H1 a xs ∧ ∀ p, H1 p = none → Q (.ref p) (upd H1 p (.lst xs.reverse))) ∨ (SqT K H1 a xs ∧ ∀ p, H1 p = none → Q (.ref p) (upd H1 p (.tup xs.reverse))))
theorem pe_revA {X : Cx} {e : Expr} {te : TE} {k : Nat} {p1 p2 p3 pos : Pos} (he : PE X e te) : PE X (.Subscript e (.Slice none none (some (.UnaryOp .USub (.Constant (.int 1) k p1) p2)) p3) pos) (tRevA X.K te) := by
  refine ⟨fun pins s σ H Q I h => ?_⟩
  refine Subscript_ (thn (he.run pins s σ H _ I h) fun v s1 ⟨x, H1, I1, r1, q1⟩ => ?_)
  obtain ⟨a, xs, ex, q1⟩ := q1
  subst ex
  cases r1
  have hst : PO X (some (.UnaryOp .USub (.Constant (.int 1) k p1) p2)) (tPart (tUn (rU fun i => .int (-i)) (tC (.int 1)))) := po_some (pe_un un_neg pe_int)
  refine wpAny_Slice (thn (po_none.run pins s1 σ H1 (fun o H2 => o = none ∧ H2 = H1) I1 ⟨rfl, rfl⟩) fun vl s2 ⟨l, H2, I2, pl, el, e2⟩ => ?_)
  subst el e2
  refine thn (po_none.run pins s2 σ H2 (fun o H3 => o = none ∧ H3 = H2) I2 ⟨rfl, rfl⟩) fun vu s3 ⟨u, H3, I3, pu, eu, e3⟩ => ?_
  subst eu e3
  refine thn (hst.run pins s3 σ H3 (fun o H4 => o = some (-1) ∧ H4 = H3) I3 ⟨1, rfl, -1, rfl, rfl, rfl⟩) fun vs s4 ⟨o, H4, I4, ps, eo, e4⟩ => ?_
  subst eo e4
  have I5 : Inv X pins σ H4 { s4 with heap := s4.heap.push { cls := .type "slice", data := .fields #[vl, vu, vs] } } := I4.kept (t' := s4.toks) fun b ob q => Heap.get?_push_of_some _ q
  show wpAny (model X.prog X.w) X.A (subscriptTail e (.Slice none none (some (.UnaryOp .USub (.Constant (.int 1) k p1) p2)) p3) (.ref a) (.ref s4.heap.objs.size)) (EP X pins σ Q) X.xe { s4 with heap := s4.heap.push { cls := .type "slice", data := .fields #[vl, vu, vs] } }
  rcases q1 with ⟨hx, q⟩ | ⟨hx, q⟩
  · obtain ⟨its, r, ht, hz⟩ := I5.list hx
    have hlen := r.length
    refine tail_any (ops := [.ref a, .ref s4.heap.objs.size]) ht.isList.typeIs (PySem.slot_list_getitem.lookup) ?_ (by with_unfolding_all rfl)
    refine wpAny_getItem_list_slice ht.isList (Heap.IsSliceOf.new _ vl vu vs) pl pu ps (by decide) ?_ (by rw [List.size_toArray]; omega)
    rw [PySem.W.krv_pick]
    refine ⟨.ref _, _, I5.laid (t' := s4.toks) (o := .lst xs.reverse) (fun b ob q => Heap.get?_push_of_some _ q) (Nat.le_refl _) ?_, rfl, q _ (I5.hok.fresh (Nat.le_refl _))⟩
    exact ⟨by rw [List.length_reverse]; exact hz, _, 0, r.reverse, Heap.get?_push_size _ rfl⟩
  · obtain ⟨its, r, ht, hz⟩ := I5.tuple hx
    have hlen := r.length
    cases pl
    cases pu
    refine tail_any (ops := [.ref a, .ref s4.heap.objs.size]) ht.typeIs (PyProof.Rows.slot_tuple_getitem.lookup) ?_ (by with_unfolding_all rfl)
    refine getItem_tuple_rev ht (Heap.IsSliceOf.new _ .none .none vs) ps ?_ (by rw [List.size_toArray]; omega)
    refine ⟨.ref _, _, I5.laid (t' := s4.toks) (o := .tup xs.reverse) (fun b ob q => Heap.get?_push_of_some _ q) (Nat.le_refl _) ?_, rfl, q _ (I5.hok.fresh (Nat.le_refl _))⟩
    exact ⟨by rw [List.length_reverse]; exact hz, _, r.reverse, PyProof.Rows.IsTup.new _ _⟩
theorem bnB_of {c : SC} {y : Str} {x : String} (h : bnB c y x = true) : y = Str.ofString x ∧ glB c.sc y = true ∧ y ∈ c.bn := by
  unfold bnB at h
  rw [Bool.and_eq_true, Bool.and_eq_true] at h
  exact ⟨of_decide_eq_true h.1.1, h.1.2, of_decide_eq_true h.2⟩
theorem and2' {a b : Bool} (h : (a && b) = true) : a = true ∧ b = true := by rw [Bool.and_eq_true] at h; exact h
theorem rgV_rngL {K : PySem.W.Frag} {H : Hp} {a : Int} : ∀ n : Nat, Rs K H (rngL a n) ((List.range n).map fun i => V.int (a + (i : Nat))) := fun n => by
  unfold rngL
  generalize List.range n = l
  induction l with
  | nil => exact rfl
  | cons x l ih => exact ⟨_, _, rfl, rfl, ih⟩
theorem rgV_R {K : PySem.W.Frag} {H : Hp} {a b : Int} : Rs K H (rngL a (b - a).toNat) (rgV a b) := rgV_rngL _
theorem zstrs_of : ∀ {xs : List PV} {ts : List Str}, zstrs xs = some ts → xs = ts.map PV.str
  | [], ps, h => by cases h; rfl
  | x :: r, ps, h => by
    unfold zstrs at h
    split at h
    · rename_i e; cases e
    · rename_i e
      cases e
      cases e2 : zstrs r with
      | none => rw [e2] at h; cases h
      | some qs => rw [e2] at h; cases h; rw [zstrs_of e2]; rfl
    · cases h
theorem zstrs_map : ∀ ts : List Str, zstrs (ts.map PV.str) = some ts
  | [] => rfl
  | t :: ts => by
    show (zstrs (ts.map PV.str)).map (t :: ·) = _
    rw [zstrs_map ts]; rfl
theorem rs_str {K : PySem.W.Frag} {H : Hp} : ∀ {ts : List Str} {vs : List V}, Rs K H (ts.map PV.str) vs → vs = ts.map V.str
  | [], vs, h => h
  | f :: fs, vs, h => by
    obtain ⟨v, ws, rfl, r1, r2⟩ := h
    rw [rs_str r2]
    have e : v = .str f := r1
    rw [e]; rfl
section
variable {X : Cx} {W : L2.WX} {c : SC} {k : Nat} {pe pa pb pd tg : Expr} {wa wb wd : ZWe}
theorem we_fl {f : List Fl → Bool} {id : String} {p pos : Pos} (hr : CallR X (.builtin id) (rAnyF X.K f)) (hg : Gl X (Str.ofString id)) (hm : X.mg (Str.ofString id) = none) (hb : bootBuiltins (Str.ofString id) = some (.builtin id)) (hn : Str.ofString id ≠ "__name__") (hd : Str.ofString id ≠ "__debug__")
    (ha : WE X W pa wa) (h1 : nost pa = true) : WE X W (.Call (.Name (Str.ofString id) p) [pa] [] pos) (fun E τ M Q => wa E τ M fun x M1 => flP f [x] M1 Q) := by
  have hA : WA X W [pa] (wCons wa wNil) := wa_cons ha wa_nil (star_of h1)
  refine PE.imp (pe_callB hr hg hm hb hA hn (by simpa using hd) (star_of h1) (backs_of (es := []) rfl)) fun _ _ _ h => lift_cb cz_fl (w := wCons wa wNil) ?_
  exact h
theorem call_tupF : CallR X (.type "tuple") (fun xs H Q => ∃ p ys, xs = [.ref p] ∧ ((SqL X.K H p ys ∧ ∀ l (o : Obj), H l = none → o.cls = .type "tuple" → o.dict = none → Q (.ref l) (upd H l (.frz o (.tup ys)))) ∨ (SqT X.K H p ys ∧ Q (.ref p) H))) := by
  intro pins s σ H xs us Q I r h
  obtain ⟨p, ys, rfl, h⟩ := h
  obtain ⟨u, rfl, rx⟩ := vals1 r
  cases rx
  rcases h with ⟨hq, q⟩ | ⟨hq, q⟩
  · obtain ⟨its, r', pl, hz⟩ := I.list hq
    have hlen := r'.length
    refine call_tuple_list pl.isList (fun h' kp => ?_) (by simp only [List.size_toArray] <;> omega)
    have I1 : Inv X pins σ H { s with heap := h' } := I.kept (t' := s.toks) kp
    have I2 : Inv X pins σ (upd H h'.objs.size (.frz { cls := .type "tuple", data := .seq its.toArray } (.tup ys))) { s with heap := h'.push { cls := .type "tuple", data := .seq its.toArray } } :=
      I1.laid (t' := s.toks) (fun b o e => Heap.get?_push_of_some _ e) (Nat.le_refl _) (show ObjOk X.prog X.w _ _ _ (.frz _ (.tup ys)) from ⟨Heap.get?_push_size _ rfl, hz, its, r', IsTup.new _ _⟩)
    exact ⟨.ref h'.objs.size, _, I2, rfl, q _ _ (I1.hok.fresh (Nat.le_refl _)) rfl rfl⟩
  · obtain ⟨its, r', pl, hz⟩ := I.tuple hq
    exact call_tuple_same pl ⟨.ref p, H, I, rfl, q⟩
theorem cz_tupF {K : PySem.W.Frag} : CallZ K (fun xs H Q => ∃ p ys, xs = [.ref p] ∧ ((SqL K H p ys ∧ ∀ l (o : Obj), H l = none → o.cls = .type "tuple" → o.dict = none → Q (.ref l) (upd H l (.frz o (.tup ys)))) ∨ (SqT K H p ys ∧ Q (.ref p) H)))
    (fun xs M Q => match xs with
      | [x] => tupFP x M Q
      | _ => False) := fun xs vs H M Q' Q sm rx q k => by
  dsimp only at q
  split at q
  · rename_i x
    obtain ⟨v, rfl, r⟩ := Rs.of1 rx
    unfold tupFP at q
    split at q
    · rename_i p
      obtain rfl := R.of_ref r
      split at q
      · rename_i ys e
        obtain ⟨ws, sa, ra⟩ := sm.lget e
        exact ⟨p, ws, rfl, .inl ⟨sa, fun l o hl hc hd => k _ _ (.ftu ys) _ (Le.new hl) (sm.new_tup hl) ⟨l, ws, rfl, ⟨o, upd_same, hc, hd⟩, Rs.mono (Le.new hl) _ _ ra⟩ q⟩⟩
      · exact q.elim
    · rename_i ys
      obtain ⟨a, ws, rfl, sa, ra⟩ := r
      exact ⟨a, ws, rfl, .inr ⟨sa.sq, k.now (x := .ftu ys) sm ⟨a, ws, rfl, sa, ra⟩ q⟩⟩
    · rename_i ys
      obtain ⟨a, ws, rfl, sa, ra⟩ := r
      exact ⟨a, ws, rfl, .inr ⟨sa, k.now (x := .tup ys) sm ⟨a, ws, rfl, sa, ra⟩ q⟩⟩
    · exact q.elim
  · exact q.elim
theorem we_tupF {p pos : Pos} (hg : Gl X (Str.ofString "tuple")) (hm : X.mg (Str.ofString "tuple") = none) (ha : WE X W pa wa) (h1 : nost pa = true) : WE X W (.Call (.Name (Str.ofString "tuple") p) [pa] [] pos) (fun E τ M Q => wa E τ M fun x M1 => tupFP x M1 Q) := by
  have hA : WA X W [pa] (wCons wa wNil) := wa_cons ha wa_nil (star_of h1)
  refine PE.imp (pe_callTy call_tupF hg hm (by decide +kernel) hA (by decide +kernel) (by decide +kernel) (star_of h1) (backs_of (es := []) rfl)) fun _ _ _ h => lift_cb cz_tupF (w := wCons wa wNil) ?_
  exact h
theorem we_asT (ha : WE X W pe wa) : WE X W pe (fun E τ M Q => wa E τ M fun x M1 => Q (thaw x) M1) :=
  PE.imp ha fun σ H Q h => by
    obtain ⟨P, E, τ, M, Q', st, sm, hw, hc, hE⟩ := h
    exact ⟨P, E, τ, M, fun x M1 => Q' (thaw x) M1, st, sm, hw, fun v H1 x M1 l1 sm1 r1 h1 => hc v H1 (thaw x) M1 l1 sm1 (R.thaw x v r1) h1, hE⟩
theorem we_rvl {q : Nat} {p1 p2 p3 pos : Pos} (ha : WE X W pa wa) : WE X W (.Subscript pa (.Slice none none (some (.UnaryOp .USub (.Constant (.int 1) q p1) p2)) p3) pos) (fun E τ M Q => wa E τ M fun x M1 => rvlP x M1 Q) :=
  PE.imp (pe_revA ha) fun σ H Q h => by
    obtain ⟨P, E, τ, M, Q', st, sm, hw, hc, hE⟩ := h
    refine ⟨P, E, τ, M, _, st, sm, hw, fun v H1 x M1 l1 sm1 r1 h1 => ?_, hE⟩
    replace h1 : rvlP x M1 Q' := h1
    unfold rvlP at h1
    split at h1
    · rename_i p
      obtain rfl := R.of_ref r1
      split at h1
      · rename_i xs e
        obtain ⟨vs, s1, s2⟩ := sm1.lget e
        refine ⟨p, vs, rfl, .inl ⟨s1, fun l hl => ?_⟩⟩
        exact hc _ _ (.ref l) _ (l1.trans (Le.new hl)) (sm1.new_lst hl s2.reverse) rfl (h1 l (sm1.fresh hl))
      · exact h1.elim
    · rename_i xs
      obtain ⟨a, ws, rfl, sa, ra⟩ := r1
      refine ⟨a, ws, rfl, .inr ⟨sa, fun l hl => ?_⟩⟩
      exact hc _ _ (.tup xs.reverse) _ (l1.trans (Le.new hl)) (sm1.new_tup hl) (R.tupNew ra.reverse hl) h1
    · exact h1.elim
theorem lrng_of {P H : Hp} {M : Mp} {x y : PV} {v u : V} {Q' : ZQ} {Q : VK} (sm : SRm X.K P H M) (r : R X.K H x v) (r2 : R X.K H y u) (h : lrngP x y M Q') (hc : Cont X.K P H Q' Q) :
    ∃ a b, v = .int a ∧ u = .int b ∧ RgOk a b ∧ ∀ q, H q = none → Q (.ref q) (upd H q (.lst (rgV a b))) := by
  unfold lrngP at h
  split at h
  · rename_i a b
    obtain rfl := R.of_int r
    obtain rfl := R.of_int r2
    obtain ⟨⟨b1, b2, b3, b4, b5⟩, h⟩ := h
    refine ⟨a, b, rfl, rfl, ⟨by omega, by omega, by omega, by omega, by omega⟩, fun l hl => ?_⟩
    exact hc _ _ (.ref l) _ (Le.new hl) (sm.new_lst hl rgV_R) rfl (h l (sm.fresh hl))
  · exact h.elim
theorem we_lrng1 {p p2 pos pos2 : Pos} (hcm : X.calm = true) (hg : Gl X (Str.ofString "list")) (hm : X.mg (Str.ofString "list") = none) (hg2 : Gl X (Str.ofString "range")) (hm2 : X.mg (Str.ofString "range") = none) (ha : WE X W pa wa) (h1 : nost pa = true) :
    WE X W (.Call (.Name (Str.ofString "list") p) [.Call (.Name (Str.ofString "range") p2) [pa] [] pos2] [] pos) (fun E τ M Q => wa E τ M fun x M1 => lrngP (.int 0) x M1 Q) :=
  PE.imp (pe_listRg hcm hg hm (prg_1 hg2 hm2 ha (star_of h1)) (star_of rfl)) fun σ H Q h => by
    obtain ⟨P, E, τ, M, Q', st, sm, hw, hc, hE⟩ := h
    refine ⟨P, E, τ, M, _, st, sm, hw, fun v H1 x M1 l1 sm1 r1 h1 => ?_, hE⟩
    obtain ⟨a, b, ea, eb, ok, q⟩ := lrng_of (v := .int 0) sm1 (x := .int 0) rfl r1 h1 (hc.mono l1)
    cases ea
    exact ⟨b, eb, ok, q⟩
theorem we_lrng2 {p p2 pos pos2 : Pos} (hcm : X.calm = true) (hg : Gl X (Str.ofString "list")) (hm : X.mg (Str.ofString "list") = none) (hg2 : Gl X (Str.ofString "range")) (hm2 : X.mg (Str.ofString "range") = none) (ha : WE X W pa wa) (hb : WE X W pb wb) (h1 : nost pa = true) (h2 : nost pb = true) :
    WE X W (.Call (.Name (Str.ofString "list") p) [.Call (.Name (Str.ofString "range") p2) [pa, pb] [] pos2] [] pos) (fun E τ M Q => wa E τ M fun x M1 => wb E τ M1 fun y M2 => lrngP x y M2 Q) :=
  PE.imp (pe_listRg hcm hg hm (prg_2 hg2 hm2 ha hb (star_of h1) (star_of h2) (backs_of (by simp [h2]))) (star_of rfl)) fun σ H Q h => by
    obtain ⟨P, E, τ, M, Q', st, sm, hw, hc, hE⟩ := h
    refine ⟨P, E, τ, M, _, st, sm, hw, fun v H1 x M1 l1 sm1 r1 h1 => ?_, hE⟩
    refine ⟨P, E, τ, M1, _, st.mono l1, sm1, h1, fun u H2 y M2 l2 sm2 r2 h2 => ?_, hE.mono l1⟩
    obtain ⟨a, b, ea, eb, ok, q⟩ := lrng_of sm2 (R.mono l2 _ _ r1) r2 h2 (hc.mono (l1.trans l2))
    exact ⟨a, b, ea, eb, ok, q⟩
theorem we_join {sep : Str} {k1 : Option Str} {kn : Nat} {pc ap cp : Pos} (hl : ap.endLine = cp.line) (ha : WE X W pa wa) (h1 : nost pa = true) :
    WE X W (.Call (.Attribute (.Constant (.str sep) kn pc) (Str.ofString "join") ap) [pa] [] cp) (fun E τ M Q => wa E τ M fun x M1 => joinP sep x M1 Q) := by
  have hA : WA X W [pa] (wCons wa wNil) := wa_cons ha wa_nil (star_of h1)
  have hO : WE X W (.Constant (.str sep) kn pc) (fun E τ M Q => Q (.str sep) M) := we_con pe_str fun _ => rfl
  have hfew : ((backTo cp (starEach [pa] X.env)).all (fun x => !x.1) && (backToKw cp (keywordEach [] X.env)).all (fun x => x.1.isSome)
      && decide (([pa] : List Expr).length + ([] : List Keyword).length + (if ([] : List Keyword).isEmpty then 0 else 1) < 30)) = true := by
    rw [star_of h1]; rfl
  refine PE.imp (pe_bm PySem.F.plainAttrs_str PySem.F.slot_str_join PySem.F.type_str_join mt_join hO hA (base_of rfl) hfew (by rw [hl]; simp) (star_of h1) (backs_of (es := []) rfl)) fun σ H Q h => ?_
  obtain ⟨P, E, τ, M, Q', st, sm, hw, hc, hE⟩ := h
  refine ⟨P, E, τ, M, fun x M1 => x = .str sep ∧ wa E τ M1 fun x M1 => joinP sep x M1 Q', st, sm, ⟨rfl, hw⟩, fun v H1 x M1 l1 sm1 r1 h1 => ?_, hE⟩
  obtain ⟨rfl, h1⟩ := h1
  obtain rfl : v = .str sep := r1
  refine ⟨rfl, P, E, τ, M1, fun xs M2 => match xs with
    | [x] => joinP sep x M2 Q'
    | _ => False, st.mono l1, sm1, h1, fun vs H2 xs M2 l2 sm2 r2 h2 => ?_, hE.mono l1⟩
  match xs, r2, h2 with
  | [x], r2, h2 =>
    obtain ⟨u, rfl, ru⟩ := Rs.of1 r2
    have h2 : joinP sep x M2 Q' := h2
    unfold joinP at h2
    cases e : seqOf x M2 with
    | none => rw [e] at h2; exact h2.elim
    | some ys =>
      rw [e, Option.bind_some] at h2
      cases e2 : zstrs ys with
      | none => rw [e2] at h2; exact h2.elim
      | some ts =>
        rw [e2] at h2
        obtain ⟨hz, h2⟩ := h2
        have e3 := zstrs_of e2
        subst e3
        have fin : Q (.str (Txt.join sep ts)) H2 := hc _ _ (.str _) _ (l1.trans l2) sm2 rfl h2
        cases x with
        | tup zs =>
          cases e
          obtain ⟨a, ws, rfl, sa, ra⟩ := ru
          rw [rs_str ra] at sa
          exact ⟨sep, a, ts, rfl, rfl, .inr sa, hz, fin⟩
        | ref p =>
          obtain rfl := R.of_ref ru
          obtain ⟨ws, sa, ra⟩ := sm2.lget e
          rw [rs_str ra] at sa
          exact ⟨sep, p, ts, rfl, rfl, .inl sa, hz, fin⟩
        | _ => cases e
theorem xC1_of {id : String} (h : xC1 c id pe = some pa) : ∃ p pos, pe = .Call (.Name (Str.ofString id) p) [pa] [] pos ∧ glB c.sc (Str.ofString id) = true ∧ Str.ofString id ∈ c.bn ∧ nost pa = true := by
  unfold xC1 at h
  split at h
  · split at h
    · rename_i h0
      cases h
      obtain ⟨h1, h2⟩ := and2' h0
      obtain ⟨rfl, b2, b3⟩ := bnB_of h1
      exact ⟨_, _, rfl, b2, b3, h2⟩
    · cases h
  · cases h
theorem xCR1_of {id : String} (h : xCR1 c id pe = some pa) : ∃ p p2 pos pos2, pe = .Call (.Name (Str.ofString id) p) [.Call (.Name (Str.ofString "range") p2) [pa] [] pos2] [] pos ∧ glB c.sc (Str.ofString id) = true ∧ Str.ofString id ∈ c.bn ∧ glB c.sc (Str.ofString "range") = true ∧ Str.ofString "range" ∈ c.bn ∧ nost pa = true := by
  unfold xCR1 at h
  split at h
  · split at h
    · rename_i h0
      cases h
      obtain ⟨h0, h2⟩ := and2' h0
      obtain ⟨h1, h3⟩ := and2' h0
      obtain ⟨rfl, b2, b3⟩ := bnB_of h1
      obtain ⟨rfl, d2, d3⟩ := bnB_of h3
      exact ⟨_, _, _, _, rfl, b2, b3, d2, d3, h2⟩
    · cases h
  · cases h
theorem xCR2_of {id : String} {ps : Expr × Expr} (h : xCR2 c id pe = some ps) : ∃ p p2 pos pos2, pe = .Call (.Name (Str.ofString id) p) [.Call (.Name (Str.ofString "range") p2) [ps.1, ps.2] [] pos2] [] pos ∧ glB c.sc (Str.ofString id) = true ∧ Str.ofString id ∈ c.bn ∧ glB c.sc (Str.ofString "range") = true ∧ Str.ofString "range" ∈ c.bn ∧ nost ps.1 = true ∧ nost ps.2 = true := by
  unfold xCR2 at h
  split at h
  · split at h
    · rename_i h0
      cases h
      obtain ⟨h0, h2⟩ := and2' h0
      obtain ⟨h0, h4⟩ := and2' h0
      obtain ⟨h1, h3⟩ := and2' h0
      obtain ⟨rfl, b2, b3⟩ := bnB_of h1
      obtain ⟨rfl, d2, d3⟩ := bnB_of h3
      exact ⟨_, _, _, _, rfl, b2, b3, d2, d3, h4, h2⟩
    · cases h
  · cases h
theorem op1_ok (o : Op1) (C : CtxOk X c k) (hcm : X.calm = true) (h : x1 c o pe = some pa) (ha : WE X W pa wa) : WE X W pe (fun E τ M Q => wa E τ M fun x M1 => op1P o x M1 Q) := by
  cases o with
  | asT =>
    have h : xAsT pe = some pa := h
    unfold xAsT at h
    split at h <;> first | (cases h; exact we_asT ha) | cases h
  | tupF =>
    obtain ⟨p, pos, rfl, b2, b3, h2⟩ := xC1_of (id := "tuple") h
    exact we_tupF (C.gl b2) (C.bn _ b3) ha h2
  | anyi =>
    obtain ⟨p, pos, rfl, b2, b3, h2⟩ := xC1_of (id := "any") h
    exact we_fl (cr_anyF hcm) (C.gl b2) (C.bn _ b3) (by decide +kernel) (by decide +kernel) (by decide +kernel) ha h2
  | alli =>
    obtain ⟨p, pos, rfl, b2, b3, h2⟩ := xC1_of (id := "all") h
    exact we_fl (cr_allF hcm) (C.gl b2) (C.bn _ b3) (by decide +kernel) (by decide +kernel) (by decide +kernel) ha h2
  | rvl =>
    have h : xRvl pe = some pa := h
    unfold xRvl at h
    split at h
    · cases h
      exact we_rvl ha
    · cases h
  | lrng1 =>
    obtain ⟨p, p2, pos, pos2, rfl, b2, b3, d2, d3, h2⟩ := xCR1_of (id := "list") h
    exact we_lrng1 hcm (C.gl b2) (C.bn _ b3) (C.gl d2) (C.bn _ d3) ha h2
  | join sep =>
    have h : xJoin sep pe = some pa := h
    unfold xJoin at h
    split at h
    · split at h
      · rename_i h0
        cases h
        obtain ⟨h0, h2⟩ := and2' h0
        obtain ⟨h0, h3⟩ := and2' h0
        obtain ⟨h0, h4⟩ := and2' h0
        obtain rfl := of_decide_eq_true h0
        obtain rfl := of_decide_eq_true h4
        exact we_join (k1 := none) (of_decide_eq_true h3) ha h2
      · cases h
    · cases h
theorem op2_ok (o : Op2) {ps : Expr × Expr} (C : CtxOk X c k) (hcm : X.calm = true) (h : x2 c o pe = some ps) (ha : WE X W ps.1 wa) (hb : WE X W ps.2 wb) : WE X W pe (fun E τ M Q => wa E τ M fun x M1 => wb E τ M1 fun y M2 => op2P o x y M2 Q) := by
  cases o with
  | srev =>
    have h : xSrev c pe = some ps := h
    unfold xSrev at h
    split at h
    · split at h
      · rename_i h0
        cases h
        obtain ⟨h0, h2⟩ := and2' h0
        obtain ⟨h1, h3⟩ := and2' h0
        obtain ⟨rfl, b2, b3⟩ := bnB_of h1
        obtain rfl := of_decide_eq_true h3
        exact we_srev (C.gl b2) (C.bn _ b3) ha hb (star_of h2)
      · cases h
    · cases h
  | lrng2 =>
    obtain ⟨p, p2, pos, pos2, rfl, b2, b3, d2, d3, h4, h2⟩ := xCR2_of (id := "list") h
    exact we_lrng2 hcm (C.gl b2) (C.bn _ b3) (C.gl d2) (C.bn _ d3) ha hb h4 h2
/-! ### walks -/
theorem seq_rv {K : PySem.W.Frag} {H : Hp} {s : Sr} {xs0 : List V} {sq : ZSeq} (h0 : s.sq K H xs0) (hl : xs0.length = sq.its.length) (h : ∀ {P1 : Hp} (H1 : Hp) (M1 : Mp), Le H H1 → SRm K P1 H1 M1 → sq.ok M1 → ∃ ys, s.sq K H1 ys ∧ Rs K H1 sq.its ys) :
    SeqOk K H (match s with
      | .l a => Itv K a xs0.length
      | .t a => RT.ItvT K a xs0.length) ⟨sq.its.reverse, sq.ok⟩ := fun i H1 M1 l sm ok => by
  obtain ⟨ys, sy, ry⟩ := h H1 M1 l sm ok
  have hy := ry.length
  cases s with
  | l a =>
    refine ⟨fun y e => ?_, fun e => ?_⟩
    · have e : sq.its.reverse[i]? = some y := e
      have hi : i < sq.its.length := by have := (List.getElem?_eq_some_iff.mp e).1; rwa [List.length_reverse] at this
      rw [List.getElem?_reverse hi] at e
      obtain ⟨v, g, rv⟩ := ry.get e
      rw [← hl] at g
      refine ⟨⟨by omega, ys, v, sy, g⟩, fun u H' q => ?_⟩
      obtain ⟨rfl, q⟩ := q
      have e1 := q ys sy
      rw [g] at e1
      cases e1
      exact ⟨Le.refl, sm, rv⟩
    · have e : sq.its.reverse.length = i := e
      rw [List.length_reverse] at e
      show xs0.length ≤ i
      omega
  | t a =>
    refine ⟨fun y e => ?_, fun e => ?_⟩
    · have e : sq.its.reverse[i]? = some y := e
      have hi : i < sq.its.length := by have := (List.getElem?_eq_some_iff.mp e).1; rwa [List.length_reverse] at this
      rw [List.getElem?_reverse hi] at e
      obtain ⟨v, g, rv⟩ := ry.get e
      rw [← hl] at g
      refine ⟨⟨by omega, ys, v, sy, g⟩, fun u H' q => ?_⟩
      obtain ⟨rfl, q⟩ := q
      have e1 := q ys sy
      rw [g] at e1
      cases e1
      exact ⟨Le.refl, sm, rv⟩
    · have e : sq.its.reverse.length = i := e
      rw [List.length_reverse] at e
      show xs0.length ≤ i
      omega
theorem src_len {K : PySem.W.Frag} {P H : Hp} {M : Mp} {x : PV} {v : V} {sq : ZSeq} (sm : SRm K P H M) (r : R K H x v) (h : srcOf x M = some sq) : sq.ok M := by
  cases x with
  | tup xs => cases h; trivial
  | ref p =>
    dsimp only [srcOf] at h
    cases e : lget M p with
    | none => rw [e] at h; cases h
    | some xs => rw [e] at h; cases h; exact e
  | _ => cases h
theorem wi_rev {p pos : Pos} (hg : Gl X (Str.ofString "reversed")) (hm : X.mg (Str.ofString "reversed") = none) (ha : WE X W pa wa) (h1 : nost pa = true) :
    WI X W tg (.Call (.Name (Str.ofString "reversed") p) [pa] [] pos) (fun E τ M Q => wa E τ M fun x M1 => revP x M1 Q) := PI.imp (RT.pi_revA hg hm ha (star_of h1)) fun σ H Q h => by
  obtain ⟨P, E, τ, M, Q', st, sm, hw, hc, hE⟩ := h
  refine ⟨P, E, τ, M, _, st, sm, hw, fun v H1 x M1 l1 sm1 r1 h1 => ?_, hE⟩
  replace h1 : revP x M1 Q' := h1
  unfold revP at h1
  cases e : srcOf x M1 with
  | none => rw [e] at h1; exact h1.elim
  | some sq =>
    rw [e] at h1
    obtain ⟨s, xs, rfl, sq', hh⟩ := src_of sm1 r1 e
    obtain ⟨ys, sy, ry⟩ := hh H1 M1 Le.refl sm1 (src_len sm1 r1 e)
    cases s with
    | l a => exact ⟨a, ys, rfl, .inl ⟨sy, hc _ _ _ _ l1 sm1 (seq_rv (s := .l a) sy ry.length hh) h1⟩⟩
    | t a => exact ⟨a, ys, rfl, .inr ⟨sy, hc _ _ _ _ l1 sm1 (seq_rv (s := .t a) sy ry.length hh) h1⟩⟩
theorem seq_rngC {K : PySem.W.Frag} {H : Hp} {lo c : Int} {n : Nat} : SeqOk K H (Itc lo c n) ⟨rngC lo c n, fun _ => True⟩ := fun i H1 M l sm ok => by
  have hl : (rngC lo c n).length = n := by unfold rngC; rw [List.length_map, List.length_range]
  refine ⟨fun x e => ?_, fun e => ?_⟩
  · have e : (rngC lo c n)[i]? = some x := e
    have hi : i < n := by have := (List.getElem?_eq_some_iff.mp e).1; omega
    unfold rngC at e
    rw [List.getElem?_map, List.getElem?_range hi] at e
    cases e
    refine ⟨hi, fun v H' q => ?_⟩
    obtain ⟨rfl, rfl⟩ := q
    exact ⟨Le.refl, sm, rfl⟩
  · have e : (rngC lo c n).length = i := e
    show n ≤ i
    omega
theorem rngL_rev {a : Int} {n : Nat} : (rngL a n).reverse = rngC (a + (n : Int) - 1) (-1) n := by
  apply List.ext_getElem?
  intro j
  by_cases hj : j < n
  · unfold rngL rngC
    rw [List.getElem?_reverse (by simpa using hj), List.getElem?_map, List.getElem?_map, List.getElem?_range hj, List.length_map, List.length_range, List.getElem?_range (by omega)]
    show some (PV.int _) = some (PV.int _)
    congr 2
    omega
  · have h1 : (rngL a n).reverse.length = n := by rw [List.length_reverse, rngL_len]
    have h2 : (rngC (a + (n : Int) - 1) (-1) n).length = n := by unfold rngC; rw [List.length_map, List.length_range]
    rw [List.getElem?_eq_none (by omega), List.getElem?_eq_none (by omega)]
theorem revr_of {P H : Hp} {M : Mp} {x y : PV} {v u : V} {Q' : ZSeq → Mp → Prop} {Rr : It → Hp → Prop} (sm : SRm X.K P H M) (r : R X.K H x v) (r2 : R X.K H y u) (h : revrP x y M Q')
    (hc : ∀ J H' sq M', Le H H' → SRm X.K P H' M' → SeqOk X.K H' J sq → Q' sq M' → Rr J H') :
    ∃ a b, v = .int a ∧ u = .int b ∧ (-(2 ^ 62) ≤ a ∧ a < 2 ^ 62 ∧ -(2 ^ 62) ≤ b ∧ b < 2 ^ 62 ∧ Rr (Itc (a + (((b - a).toNat : Nat) : Int) - 1) (-1) (b - a).toNat) H) := by
  unfold revrP at h
  split at h
  · rename_i a b
    obtain rfl := R.of_int r
    obtain rfl := R.of_int r2
    obtain ⟨⟨b1, b2, b3, b4⟩, h⟩ := h
    rw [rngL_rev] at h
    exact ⟨a, b, rfl, rfl, b1, b2, b3, b4, hc _ _ _ _ Le.refl sm seq_rngC h⟩
  · exact h.elim
theorem wi_revr1 {p p2 pos pos2 : Pos} (hg : Gl X (Str.ofString "reversed")) (hm : X.mg (Str.ofString "reversed") = none) (hg2 : Gl X (Str.ofString "range")) (hm2 : X.mg (Str.ofString "range") = none) (ha : WE X W pa wa) (h1 : nost pa = true) :
    WI X W tg (.Call (.Name (Str.ofString "reversed") p) [.Call (.Name (Str.ofString "range") p2) [pa] [] pos2] [] pos) (fun E τ M Q => wa E τ M fun x M1 => revrP (.int 0) x M1 Q) :=
  PI.imp (pi_revR hg hm (prg_1 hg2 hm2 ha (star_of h1)) (star_of rfl)) fun σ H Q h => by
    obtain ⟨P, E, τ, M, Q', st, sm, hw, hc, hE⟩ := h
    refine ⟨P, E, τ, M, _, st, sm, hw, fun v H1 x M1 l1 sm1 r1 h1 => ?_, hE⟩
    obtain ⟨a, b, ea, eb, q⟩ := revr_of (Rr := Q) (v := .int 0) (x := .int 0) sm1 rfl r1 h1 fun J H' sq M' l => hc J H' sq M' (l1.trans l)
    cases ea
    exact ⟨b, eb, q⟩
theorem wi_revr2 {p p2 pos pos2 : Pos} (hg : Gl X (Str.ofString "reversed")) (hm : X.mg (Str.ofString "reversed") = none) (hg2 : Gl X (Str.ofString "range")) (hm2 : X.mg (Str.ofString "range") = none) (ha : WE X W pa wa) (hb : WE X W pb wb) (h1 : nost pa = true) (h2 : nost pb = true) :
    WI X W tg (.Call (.Name (Str.ofString "reversed") p) [.Call (.Name (Str.ofString "range") p2) [pa, pb] [] pos2] [] pos) (fun E τ M Q => wa E τ M fun x M1 => wb E τ M1 fun y M2 => revrP x y M2 Q) :=
  PI.imp (pi_revR hg hm (prg_2 hg2 hm2 ha hb (star_of h1) (star_of h2) (backs_of (by simp [h2]))) (star_of rfl)) fun σ H Q h => by
    obtain ⟨P, E, τ, M, Q', st, sm, hw, hc, hE⟩ := h
    refine ⟨P, E, τ, M, _, st, sm, hw, fun v H1 x M1 l1 sm1 r1 h1 => ?_, hE⟩
    refine ⟨P, E, τ, M1, _, st.mono l1, sm1, h1, fun u H2 y M2 l2 sm2 r2 h2 => ?_, hE.mono l1⟩
    obtain ⟨a, b, ea, eb, q⟩ := revr_of (Rr := Q) sm2 (R.mono l2 _ _ r1) r2 h2 fun J H' sq M' l => hc J H' sq M' ((l1.trans l2).trans l)
    exact ⟨a, b, ea, eb, q⟩
theorem wi_rng3 {p pos : Pos} (hg : Gl X (Str.ofString "range")) (hm : X.mg (Str.ofString "range") = none) (ha : WE X W pa wa) (hb : WE X W pb wb) (hd : WE X W pd wd) (h1 : nost pa = true) (h2 : nost pb = true) (h3 : nost pd = true) :
    WI X W tg (.Call (.Name (Str.ofString "range") p) [pa, pb, pd] [] pos) (fun E τ M Q => wa E τ M fun x M1 => wb E τ M1 fun y M2 => wd E τ M2 fun z M3 => rng3P x y z M3 Q) :=
  PI.imp (pi_range3 hg hm (wa_cons ha (wa_cons hb (wa_cons hd wa_nil (star_of h3)) (star_of h2)) (star_of h1)) (star_of h1) (backs_of (by simp [h2, h3]))) fun σ H Q h => by
    obtain ⟨P, E, τ, M, Q', st, sm, hw, hc, hE⟩ := h
    refine ⟨P, E, τ, M, fun xs M1 => match xs with | [x, y, z] => rng3P x y z M1 Q' | _ => False, st, sm, hw, fun vs H1 xs M1 l1 sm1 r1 h1 => ?_, hE⟩
    dsimp only at h1
    split at h1
    · rename_i x y z
      obtain ⟨v1, vs1, rfl, q1, r1⟩ := r1
      obtain ⟨v2, v3, rfl, q2, q3⟩ := Rs.of2 r1
      unfold rng3P at h1
      split at h1
      · obtain rfl := R.of_int q1
        obtain rfl := R.of_int q2
        obtain rfl := R.of_int q3
        obtain ⟨n, rg, h1⟩ := h1
        refine ⟨_, _, _, n, rfl, rg, ?_⟩
        exact hc _ _ _ _ l1 sm1 seq_rngC h1
      · exact h1.elim
    · exact h1.elim
theorem it1_ok (o : It1) (C : CtxOk X c k) (h : y1 c o pe = some pa) (ha : WE X W pa wa) : WI X W tg pe (fun E τ M Q => wa E τ M fun x M1 => it1P o x M1 Q) := by
  cases o with
  | rev =>
    obtain ⟨p, pos, rfl, b2, b3, h2⟩ := xC1_of (id := "reversed") h
    exact wi_rev (C.gl b2) (C.bn _ b3) ha h2
  | revr1 =>
    obtain ⟨p, p2, pos, pos2, rfl, b2, b3, d2, d3, h2⟩ := xCR1_of (id := "reversed") h
    exact wi_revr1 (C.gl b2) (C.bn _ b3) (C.gl d2) (C.bn _ d3) ha h2
theorem it2_ok (o : It2) {ps : Expr × Expr} (C : CtxOk X c k) (h : y2 c o pe = some ps) (ha : WE X W ps.1 wa) (hb : WE X W ps.2 wb) : WI X W tg pe (fun E τ M Q => wa E τ M fun x M1 => wb E τ M1 fun y M2 => it2P o x y M2 Q) := by
  cases o with
  | revr2 =>
    obtain ⟨p, p2, pos, pos2, rfl, b2, b3, d2, d3, h4, h2⟩ := xCR2_of (id := "reversed") h
    exact wi_revr2 (C.gl b2) (C.bn _ b3) (C.gl d2) (C.bn _ d3) ha hb h4 h2
theorem it3_ok (o : It3) {ps : Expr × Expr × Expr} (C : CtxOk X c k) (h : y3 c o pe = some ps) (ha : WE X W ps.1 wa) (hb : WE X W ps.2.1 wb) (hd : WE X W ps.2.2 wd) : WI X W tg pe (fun E τ M Q => wa E τ M fun x M1 => wb E τ M1 fun y M2 => wd E τ M2 fun z M3 => it3P o x y z M3 Q) := by
  cases o with
  | rng3 =>
    have h : xC3 c "range" pe = some ps := h
    unfold xC3 at h
    split at h
    · split at h
      · rename_i h0
        cases h
        obtain ⟨h0, h2⟩ := and2' h0
        obtain ⟨h0, h4⟩ := and2' h0
        obtain ⟨h1, h3⟩ := and2' h0
        obtain ⟨rfl, b2, b3⟩ := bnB_of h1
        exact wi_rng3 (C.gl b2) (C.bn _ b3) ha hb hd h3 h4 h2
      · cases h
    · cases h
end
end Zd

set_option Elab.async false
set_option linter.all false
set_option maxRecDepth 100000
set_option maxHeartbeats 8000000
/-! Zd 11: soundness of the expressions. -/
namespace Zd
open PySem PySem.Spec PyProof.Rows L2

section
variable {X : Cx} {W : L2.WX} {pos : Pos}
theorem and2 {a b : Bool} (h : (a && b) = true) : a = true ∧ b = true := by rw [Bool.and_eq_true] at h; exact h
theorem notB {a : Bool} (h : (!a) = true) : a = false := by cases a <;> simp_all
/-- a chain of tests -/
theorem wwa_imp {e : Expr} {w w' : ZWt} (h : WW X W e w) (i : w' = w) : WW X W e w' := by rw [i]; exact h
theorem ifs_one {pe : Expr} {w : ZWt} (h : WT X W pe w) : PTs X [pe] (liftT X.K X.mg W w) := pts_one h
end
mutual
theorem sndE {k : Nat} : ∀ (e : ZE) (X : Cx) (W : L2.WX) (c : SC) (pe : Expr), CtxOk X c k → L2N.Takes X W → okE (X.calm = true) (CalC X k) (GOk X) e → chkE c e pe = true → WE X W pe (wpE e)
  | .var i, X, W, c, pe, C, tk, ok, h => by
    unfold chkE at h
    split at h
    · obtain ⟨h, h3⟩ := and2 h
      obtain ⟨h1, h2⟩ := and2 h
      exact we_var (pe_var (by rw [C.nN]; exact of_decide_eq_true h1) (by rw [C.sc]; exact visB_of h2) (okNm_of h3).1 (okNm_of h3).2)
    · cases h
  | .int i, X, W, c, pe, C, tk, ok, h => by
    unfold chkE at h
    split at h
    · obtain rfl := of_decide_eq_true h
      exact we_con pe_int fun _ => rfl
    · cases h
  | .bl i, X, W, c, pe, C, tk, ok, h => by
    unfold chkE at h
    split at h
    · obtain rfl := of_decide_eq_true h
      exact we_con pe_bl fun _ => rfl
    · cases h
  | .non, X, W, c, pe, C, tk, ok, h => by
    unfold chkE at h
    split at h
    · exact we_con pe_non fun _ => rfl
    · cases h
  | .str i, X, W, c, pe, C, tk, ok, h => by
    unfold chkE at h
    split at h
    · obtain rfl := of_decide_eq_true h
      exact we_con pe_str fun _ => rfl
    · cases h
  | .gl x v, X, W, c, pe, C, tk, ok, h => by
    unfold chkE at h
    split at h
    · obtain ⟨h, h3⟩ := and2 h
      obtain ⟨h1, h2⟩ := and2 h
      obtain rfl := of_decide_eq_true h1
      obtain ⟨u, w, hm, r, hR⟩ := ok
      exact we_con (pe_glob (C.gl h2) hm r (okNm_of h3).1) hR
    · cases h
  | .ty x, X, W, c, pe, C, tk, ok, h => by
    unfold chkE at h
    split at h
    · obtain ⟨h, h5⟩ := and2 h
      obtain ⟨h, h4⟩ := and2 h
      obtain ⟨h, h3⟩ := and2 h
      obtain ⟨h1, h2⟩ := and2 h
      obtain rfl := of_decide_eq_true h1
      obtain ⟨b1, b2⟩ := ty_boot (of_decide_eq_true h5)
      exact we_con (pe_bltn (v := .ty x) (C.gl h2) (C.bn _ (of_decide_eq_true h4)) b1 rfl b2 (okNm_of h3).1) fun _ => rfl
    · cases h
  | .bin op a b, X, W, c, pe, C, tk, ok, h => by
    unfold chkE at h
    split at h
    · obtain ⟨h, h3⟩ := and2 h
      obtain ⟨h1, h2⟩ := and2 h
      obtain rfl := of_decide_eq_true h1
      obtain ⟨r, ho, hz⟩ := bin2_ok (X := X) _
      exact we_op ho hz (sndE a X W c _ C tk ok.1 h2) (sndE b X W c _ C tk ok.2 h3)
    · cases h
  | .un op a, X, W, c, pe, C, tk, ok, h => by
    unfold chkE at h
    split at h
    · obtain ⟨h1, h2⟩ := and2 h
      obtain rfl := of_decide_eq_true h1
      obtain ⟨r, ho, hz⟩ := un_ok (X := X) _
      exact we_un ho hz (sndE a X W c _ C tk ok h2)
    · cases h
  | .cmp op a b, X, W, c, pe, C, tk, ok, h => by
    unfold chkE at h
    split at h
    · obtain ⟨h, h4⟩ := and2 h
      obtain ⟨h, h3⟩ := and2 h
      obtain ⟨h1, h2⟩ := and2 h
      obtain rfl := of_decide_eq_true h1
      obtain ⟨r, ho, hz⟩ := cmp_ok (X := X) C.hu _
      exact we_cmp ho hz (sndE a X W c _ C tk ok.1 h3) (sndE b X W c _ C tk ok.2 h4) (notB h2)
    · cases h
  | .chn op op' a b d, X, W, c, pe, C, tk, ok, h => by
    unfold chkE at h
    split at h
    · obtain ⟨h, h6⟩ := and2 h
      obtain ⟨h, h5⟩ := and2 h
      obtain ⟨h, h4⟩ := and2 h
      obtain ⟨h, h3⟩ := and2 h
      obtain ⟨h1, h2⟩ := and2 h
      obtain rfl := of_decide_eq_true h1
      obtain rfl := of_decide_eq_true h2
      obtain ⟨r, ho, hz⟩ := cmp_ok (X := X) C.hu _
      obtain ⟨r', ho', hz'⟩ := cmp_ok (X := X) C.hu _
      exact we_chn ho hz ho' hz' (sndE a X W c _ C tk ok.1 h4) (sndE b X W c _ C tk ok.2.1 h5) (sndE d X W c _ C tk ok.2.2 h6) (notB h3)
    · cases h
  | .vand q, X, W, c, pe, C, tk, ok, h => by
    unfold chkE at h
    split at h
    · exact sndVA q X W c _ _ C tk ok h
    · cases h
  | .vor q, X, W, c, pe, C, tk, ok, h => by
    unfold chkE at h
    split at h
    · exact sndVO q X W c _ _ C tk ok h
    · cases h
  | .vnot a, X, W, c, pe, C, tk, ok, h => by
    unfold chkE at h
    split at h
    · exact we_not (sndE a X W c _ C tk ok h)
    · cases h
  | .ife t a b, X, W, c, pe, C, tk, ok, h => by
    unfold chkE at h
    split at h
    · obtain ⟨h, h3⟩ := and2 h
      obtain ⟨h1, h2⟩ := and2 h
      exact we_if (sndT t X W c _ C tk ok.1 h1) (sndE a X W c _ C tk ok.2.1 h2) (sndE b X W c _ C tk ok.2.2 h3)
    · cases h
  | .tup as, X, W, c, pe, C, tk, ok, h => by
    unfold chkE at h
    split at h
    · exact we_tup (sndA as X W c _ C tk ok h)
    · cases h
  | .lst as, X, W, c, pe, C, tk, ok, h => by
    unfold chkE at h
    split at h
    · exact we_lst (sndA as X W c _ C tk ok h)
    · cases h
  | .ix a b, X, W, c, pe, C, tk, ok, h => by
    unfold chkE at h
    split at h
    · obtain ⟨h, h3⟩ := and2 h
      obtain ⟨h1, h2⟩ := and2 h
      exact we_ix (by have := C.hu; omega) (sndE a X W c _ C tk ok.1 h2) (sndE b X W c _ C tk ok.2 h3) (plainIx_of h1)
    · cases h
  | .sl a lo hi, X, W, c, pe, C, tk, ok, h => by
    unfold chkE at h
    split at h
    · obtain ⟨h, h3⟩ := and2 h
      obtain ⟨h1, h2⟩ := and2 h
      exact we_sl (sndE a X W c _ C tk ok.1 h1) (sndO lo X W c _ C tk ok.2.1 h2) (sndO hi X W c _ C tk ok.2.2 h3)
    · cases h
  | .call x n sp as, X, W, c, pe, C, tk, ok, h => by
    unfold chkE at h
    split at h
    · rename_i y _ es _
      obtain ⟨h, h6⟩ := and2 h
      obtain ⟨h, h5⟩ := and2 h
      obtain ⟨h, h4⟩ := and2 h
      obtain ⟨h, h3⟩ := and2 h
      obtain ⟨h1, h2⟩ := and2 h
      obtain rfl := of_decide_eq_true h1
      cases es with
      | nil => cases h5
      | cons e es =>
        have hs := chkA_star h6
        rw [List.all_cons, Bool.and_eq_true] at hs
        by_cases hcm : X.calm = true
        · exact we_call (ok.1.calm hcm) (C.room hcm) tk (C.gl h2) (okNm_of h3).1 (sndA as X W c _ C tk ok.2 h6) (star_of hs.1) (backs_of hs.2)
        · exact we_callH (ok.1.hot (by simpa using hcm)).2 C.roomH (C.ch.resolve_left hcm) tk (C.gl h2) (okNm_of h3).1 (sndA as X W c _ C tk ok.2 h6) (star_of hs.1) (backs_of hs.2)
    · cases h
  | .blt b as, X, W, c, pe, C, tk, ok, h => by
    unfold chkE at h
    split at h
    · rename_i y _ es _
      obtain ⟨h, h6⟩ := and2 h
      obtain ⟨h, h5⟩ := and2 h
      obtain ⟨h, h4⟩ := and2 h
      obtain ⟨h, h3⟩ := and2 h
      obtain ⟨h1, h2⟩ := and2 h
      obtain rfl := of_decide_eq_true h1
      cases es with
      | nil => cases h5
      | cons e es =>
        have hs := chkA_star h6
        rw [List.all_cons, Bool.and_eq_true] at hs
        obtain ⟨⟨r, hr, hz⟩, b1, b2⟩ := blt_ok (X := X) b ok.1
        have iA := sndA as X W c _ C tk ok.2 h6
        have hm := C.bn _ (of_decide_eq_true h4)
        cases hk : bltK b with
        | fn id =>
          rw [hk] at hr b1
          exact PE.imp (pe_callB hr (C.gl h2) hm b1 iA b2 (okNm_of h3).1 (star_of hs.1) (backs_of hs.2)) fun _ _ _ h => lift_cb hz h
        | ty T =>
          rw [hk] at hr b1
          exact PE.imp (pe_callTy hr (C.gl h2) hm b1 iA b2 (okNm_of h3).1 (star_of hs.1) (backs_of hs.2)) fun _ _ _ h => lift_cb hz h
    · cases h
  | .mth m o as, X, W, c, pe, C, tk, ok, h => by
    unfold chkE at h
    split at h
    · rename_i po at_ ap es cp
      obtain ⟨h, h7⟩ := and2 h
      obtain ⟨h, h6⟩ := and2 h
      obtain ⟨h, h5⟩ := and2 h
      obtain ⟨h, h4⟩ := and2 h
      obtain ⟨h, h3⟩ := and2 h
      obtain ⟨h1, h2⟩ := and2 h
      obtain rfl := of_decide_eq_true h1
      have h2 := of_decide_eq_true h2
      have io := sndE o X W c _ C tk ok.1 h6
      have iA := sndA as X W c _ C tk ok.2 h7
      cases es with
      | nil =>
        cases as with
        | nil => exact mth_ok0 m io h2 h3 (of_decide_eq_true h4)
        | cons e es => unfold chkA at h7; cases h7
      | cons e es => exact mth_ok1 m io iA h2 h3 (of_decide_eq_true h4) (of_decide_eq_true h5) (chkA_star h7)
    · cases h
  | .lc own g it t e, X, W, c, pe, C, tk, ok, h => by
    have hcm : X.calm = true := ok.1
    have ok := ok.2
    unfold chkE at h
    split at h
    · rename_i pe tg iter ifs scope _
      obtain ⟨h, h6⟩ := and2 h
      obtain ⟨h, h5⟩ := and2 h
      obtain ⟨h, h4⟩ := and2 h
      obtain ⟨h, h3⟩ := and2 h
      obtain ⟨h1, h2⟩ := and2 h
      refine we_lc hcm C.nd (sndI it X W c tg iter C tk ok.1 h3) (blkOk_by (by rw [C.nN, C.sc]; exact h1)) (fun s H a cl fp => sndV g _ _ _ tg (C.blk hcm s H a cl fp) hcm h4)
        (fun s H a cl fp => sndIf t _ W0 _ ifs (C.blk hcm s H a cl fp) takesF ok.2.1 h5) (fun s H a cl fp => sndE e _ W0 _ pe (C.blk hcm s H a cl fp) takesF ok.2.2 h6) (notSet_of h2)
    · cases h
  | .lc2 own g it t vs1 g1 it1 t1 e, X, W, c, pe, C, tk, ok, h => by
    have hcm : X.calm = true := ok.1
    have ok := ok.2
    unfold chkE at h
    split at h
    · rename_i pe tg iter ifs tg1 iter1 ifs1 scope _
      obtain ⟨h, h11⟩ := and2 h
      obtain ⟨h, h10⟩ := and2 h
      obtain ⟨h, h9⟩ := and2 h
      obtain ⟨h, h8⟩ := and2 h
      obtain ⟨h, h7⟩ := and2 h
      obtain ⟨h, h6⟩ := and2 h
      obtain ⟨h, h5⟩ := and2 h
      obtain ⟨h, h4⟩ := and2 h
      obtain ⟨h, h3⟩ := and2 h
      obtain ⟨h1, h2⟩ := and2 h
      refine we_lc2 hcm C.nd (sndI it X W c tg iter C tk ok.1 h3) (blkOk_by (by rw [C.nN, C.sc]; exact h1)) (fun i hi => of_decide_eq_true (List.all_eq_true.mp h8 i hi)) (fun s H a cl fp => sndV g _ _ _ tg (C.blk hcm s H a cl fp) hcm h4)
        (fun s H a cl fp => sndIf t _ W0 _ ifs (C.blk hcm s H a cl fp) takesF ok.2.1 h5) (fun s H a cl fp => sndI it1 _ W0 _ tg1 iter1 (C.blk hcm s H a cl fp) takesF ok.2.2.2.1 h9) (fun s H a cl fp => sndV g1 _ _ _ tg1 (C.blk hcm s H a cl fp) hcm h10)
        (fun s H a cl fp => sndIf t1 _ W0 _ ifs1 (C.blk hcm s H a cl fp) takesF ok.2.2.2.2 h11) (fun s H a cl fp => sndE e _ W0 _ pe (C.blk hcm s H a cl fp) takesF ok.2.2.1 h6) (notSet_of h2) (fun env => notSet_of h7)
    · cases h
  | .dc own g it t kx vx, X, W, c, pe, C, tk, ok, h => by
    have hcm : X.calm = true := ok.1
    have ok := ok.2
    unfold chkE at h
    split at h
    · rename_i pk pv tg iter ifs scope _
      obtain ⟨h, h7⟩ := and2 h
      obtain ⟨h, h6⟩ := and2 h
      obtain ⟨h, h5⟩ := and2 h
      obtain ⟨h, h4⟩ := and2 h
      obtain ⟨h, h3⟩ := and2 h
      obtain ⟨h1, h2⟩ := and2 h
      refine we_dc hcm C.nd (sndI it X W c tg iter C tk ok.1 h3) (blkOk_by (by rw [C.nN, C.sc]; exact h1)) (fun s H a cl fp => sndV g _ _ _ tg (C.blk hcm s H a cl fp) hcm h4)
        (fun s H a cl fp => sndIf t _ W0 _ ifs (C.blk hcm s H a cl fp) takesF ok.2.1 h5) (fun s H a cl fp => sndE kx _ W0 _ pk (C.blk hcm s H a cl fp) takesF ok.2.2.1 h6) (fun s H a cl fp => sndE vx _ W0 _ pv (C.blk hcm s H a cl fp) takesF ok.2.2.2 h7) (notSet_of h2)
    · cases h
  | .dget d q x, X, W, c, pe, C, tk, ok, h => by
    unfold chkE at h
    split at h
    · obtain ⟨h, h8⟩ := and2 h
      obtain ⟨h, h7⟩ := and2 h
      obtain ⟨h, h6⟩ := and2 h
      obtain ⟨h, h5⟩ := and2 h
      obtain ⟨h, h4⟩ := and2 h
      obtain ⟨h, h3⟩ := and2 h
      obtain ⟨h1, h2⟩ := and2 h
      obtain rfl := of_decide_eq_true h1
      exact we_dget2 (by have := C.hu; omega) (sndE d X W c _ C tk ok.1 h6) (sndE q X W c _ C tk ok.2.1 h7) (sndE x X W c _ C tk ok.2.2 h8) h2 (of_decide_eq_true h3) h4 h5
    · cases h
  | .callK x ks sp as, X, W, c, pe, C, tk, ok, h => by
    unfold chkE at h
    split at h
    · obtain ⟨h, h6⟩ := and2 h
      obtain ⟨h, h5⟩ := and2 h
      obtain ⟨h, h7⟩ := and2 h
      obtain ⟨h, h4⟩ := and2 h
      obtain ⟨h, h3⟩ := and2 h
      obtain ⟨h1, h2⟩ := and2 h
      obtain rfl := of_decide_eq_true h1
      by_cases hcm : X.calm = true
      case neg =>
        have z := (ok.1.hot (by simpa using hcm)).1
        subst z
        cases h5
      refine we_callK (ok.1.calm hcm) (fun z => ?_) (of_decide_eq_true h7) (C.room hcm) tk (C.gl h2) (okNm_of h3).1 (sndK as X W c _ C tk ok.2 h6) (of_decide_eq_true h4)
      subst z
      cases h5
    · cases h
  | .mnd mx a d, X, W, c, pe, C, tk, ok, h => by
    have hcm : X.calm = true := ok.1
    have ok := ok.2
    unfold chkE at h
    split at h
    · rename_i y _ pa q pd _ _
      obtain ⟨h, h7⟩ := and2 h
      obtain ⟨h, h6⟩ := and2 h
      obtain ⟨h, h5⟩ := and2 h
      obtain ⟨h, h4⟩ := and2 h
      obtain ⟨h, h3⟩ := and2 h
      obtain ⟨h1, h2⟩ := and2 h
      obtain rfl := of_decide_eq_true h1
      obtain rfl := of_decide_eq_true h4
      exact we_mnd mx hcm (by have := C.hu; omega) (C.gl h2) (C.bn _ (of_decide_eq_true h3)) (sndE a X W c _ C tk ok.1 h6) (sndE d X W c _ C tk ok.2 h7) (star_of h5)
    · cases h
  | .dget1 d q, X, W, c, pe, C, tk, ok, h => by
    unfold chkE at h
    split at h
    · obtain ⟨h, h6⟩ := and2 h
      obtain ⟨h, h5⟩ := and2 h
      obtain ⟨h, h4⟩ := and2 h
      obtain ⟨h, h3⟩ := and2 h
      obtain ⟨h1, h2⟩ := and2 h
      obtain rfl := of_decide_eq_true h1
      exact we_dget1 (by have := C.hu; omega) (sndE d X W c _ C tk ok.1 h5) (sndE q X W c _ C tk ok.2 h6) h2 (of_decide_eq_true h3) h4
    · cases h
  | .lvals d, X, W, c, pe, C, tk, ok, h => by
    have hcm : X.calm = true := ok.1
    have ok := ok.2
    unfold chkE at h
    split at h
    · obtain ⟨h, h7⟩ := and2 h
      obtain ⟨h, h6⟩ := and2 h
      obtain ⟨h, h5⟩ := and2 h
      obtain ⟨h, h4⟩ := and2 h
      obtain ⟨h, h3⟩ := and2 h
      obtain ⟨h1, h2⟩ := and2 h
      obtain rfl := of_decide_eq_true h1
      obtain rfl := of_decide_eq_true h4
      exact we_lvals hcm (C.gl h2) (C.bn _ (of_decide_eq_true h3)) (sndE d X W c _ C tk ok h7) h5 (of_decide_eq_true h6)
    · cases h
  | .op1 o a, X, W, c, pe, C, tk, ok, h => by
    have hcm : X.calm = true := ok.1
    have ok := ok.2
    unfold chkE at h
    split at h
    · rename_i pa e
      exact op1_ok o C hcm e (sndE a X W c _ C tk ok h)
    · cases h
  | .op2 o a b, X, W, c, pe, C, tk, ok, h => by
    have hcm : X.calm = true := ok.1
    have ok := ok.2
    unfold chkE at h
    split at h
    · rename_i ps e
      obtain ⟨h1, h2⟩ := and2 h
      exact op2_ok o C hcm e (sndE a X W c _ C tk ok.1 h1) (sndE b X W c _ C tk ok.2 h2)
    · cases h
  | .dnew, X, W, c, pe, C, tk, ok, h => by
    unfold chkE at h
    split at h
    · exact we_dnew
    · cases h
  | .fmt e, X, W, c, pe, C, tk, ok, h => by
    unfold chkE at h
    split at h
    · exact we_fmt (sndE e X W c _ C tk ok h)
    · cases h
  | .js as, X, W, c, pe, C, tk, ok, h => by
    unfold chkE at h
    split at h
    · exact we_js (sndJ as X W c _ C tk ok h)
    · cases h
theorem sndK {k : Nat} : ∀ (as : ZA) (X : Cx) (W : L2.WX) (c : SC) (kws : List Keyword), CtxOk X c k → L2N.Takes X W → okA (X.calm = true) (CalC X k) (GOk X) as → chkA c as (kws.map (·.value)) = true → WK X W kws (wpA as)
  | .nil, X, W, c, kws, C, tk, ok, h => by
    cases kws with
    | nil => exact wk_nil
    | cons q r => unfold chkA at h; cases h
  | .cons e as, X, W, c, kws, C, tk, ok, h => by
    cases kws with
    | nil => unfold chkA at h; cases h
    | cons q r =>
      unfold chkA at h
      obtain ⟨h, h3⟩ := and2 h
      obtain ⟨h1, h2⟩ := and2 h
      obtain ⟨nm, v, kp⟩ := q
      exact wk_cons (sndE e X W c v C tk ok.1 h2) (sndK as X W c _ C tk ok.2 h3)
theorem sndJ {k : Nat} : ∀ (as : ZA) (X : Cx) (W : L2.WX) (c : SC) (es : List Expr), CtxOk X c k → L2N.Takes X W → okA (X.calm = true) (CalC X k) (GOk X) as → chkA c as es = true → JsOk X W es (wpJ as)
  | .nil, X, W, c, es, C, tk, ok, h => by
    unfold chkA at h
    split at h
    · exact js_nil
    · cases h
  | .cons e as, X, W, c, es, C, tk, ok, h => by
    unfold chkA at h
    split at h
    · obtain ⟨h, h3⟩ := and2 h
      obtain ⟨h1, h2⟩ := and2 h
      exact js_cons (sndE e X W c _ C tk ok.1 h2) (sndJ as X W c _ C tk ok.2 h3)
    · cases h
theorem sndA {k : Nat} : ∀ (as : ZA) (X : Cx) (W : L2.WX) (c : SC) (es : List Expr), CtxOk X c k → L2N.Takes X W → okA (X.calm = true) (CalC X k) (GOk X) as → chkA c as es = true → WA X W es (wpA as)
  | .nil, X, W, c, es, C, tk, ok, h => by
    unfold chkA at h
    split at h
    · exact wa_nil
    · cases h
  | .cons e as, X, W, c, es, C, tk, ok, h => by
    unfold chkA at h
    split at h
    · obtain ⟨h, h3⟩ := and2 h
      obtain ⟨h1, h2⟩ := and2 h
      exact wa_cons (sndE e X W c _ C tk ok.1 h2) (sndA as X W c _ C tk ok.2 h3) (star_of h1)
    · cases h
theorem sndO {k : Nat} : ∀ (o : ZO) (X : Cx) (W : L2.WX) (c : SC) (po : Option Expr), CtxOk X c k → L2N.Takes X W → okO (X.calm = true) (CalC X k) (GOk X) o → chkO c o po = true → WO X W po (wpO o)
  | .none, X, W, c, po, C, tk, ok, h => by
    unfold chkO at h
    split at h
    · exact wo_none
    · cases h
  | .some e, X, W, c, po, C, tk, ok, h => by
    unfold chkO at h
    split at h
    · exact wo_some (sndE e X W c _ C tk ok h)
    · cases h
theorem sndT {k : Nat} : ∀ (t : ZT) (X : Cx) (W : L2.WX) (c : SC) (pe : Expr), CtxOk X c k → L2N.Takes X W → okT (X.calm = true) (CalC X k) (GOk X) t → chkT c t pe = true → WT X W pe (wpT t)
  | .tt, X, W, c, pe, C, tk, ok, h => by unfold chkT at h; cases h
  | .tv e, X, W, c, pe, C, tk, ok, h => by
    unfold chkT at h
    obtain ⟨h1, h2⟩ := and2 h
    exact wt_val (sndE e X W c _ C tk ok h2) (plainT_of h1)
  | .cmp op a b, X, W, c, pe, C, tk, ok, h => by
    unfold chkT at h
    split at h
    · obtain ⟨h, h4⟩ := and2 h
      obtain ⟨h, h3⟩ := and2 h
      obtain ⟨h1, h2⟩ := and2 h
      obtain rfl := of_decide_eq_true h1
      obtain ⟨r, ho, hz⟩ := cmp_ok (X := X) C.hu _
      exact wt_cmp ho hz (sndE a X W c _ C tk ok.1 h3) (sndE b X W c _ C tk ok.2 h4) (notB h2)
    · cases h
  | .chn op op' a b d, X, W, c, pe, C, tk, ok, h => by
    unfold chkT at h
    split at h
    · obtain ⟨h, h6⟩ := and2 h
      obtain ⟨h, h5⟩ := and2 h
      obtain ⟨h, h4⟩ := and2 h
      obtain ⟨h, h3⟩ := and2 h
      obtain ⟨h1, h2⟩ := and2 h
      obtain rfl := of_decide_eq_true h1
      obtain rfl := of_decide_eq_true h2
      obtain ⟨r, ho, hz⟩ := cmp_ok (X := X) C.hu _
      obtain ⟨r', ho', hz'⟩ := cmp_ok (X := X) C.hu _
      exact wt_chn ho hz ho' hz' (sndE a X W c _ C tk ok.1 h4) (sndE b X W c _ C tk ok.2.1 h5) (sndE d X W c _ C tk ok.2.2 h6) (notB h3)
    · cases h
  | .and q, X, W, c, pe, C, tk, ok, h => by
    unfold chkT at h
    split at h
    · exact (sndTA q X W c _ _ C tk ok h).wt
    · cases h
  | .or q, X, W, c, pe, C, tk, ok, h => by
    unfold chkT at h
    split at h
    · exact (sndTO q X W c _ _ C tk ok h).wt
    · cases h
  | .not t, X, W, c, pe, C, tk, ok, h => by
    unfold chkT at h
    split at h
    · exact wt_not (sndT t X W c _ C tk ok h)
    · cases h
theorem sndIf {k : Nat} : ∀ (t : ZT) (X : Cx) (W : L2.WX) (c : SC) (es : List Expr), CtxOk X c k → L2N.Takes X W → okT (X.calm = true) (CalC X k) (GOk X) t → chkIf c t es = true → PTs X es (liftT X.K X.mg W (wpT t))
  | .tt, X, W, c, es, C, tk, ok, h => by
    unfold chkIf at h
    split at h
    · exact wts_nil
    · cases h
  | .tv e, X, W, c, es, C, tk, ok, h => by
    unfold chkIf at h
    split at h
    · obtain ⟨h1, h2⟩ := and2 h
      exact ifs_one (wt_val (sndE e X W c _ C tk ok h2) (plainT_of h1))
    · cases h
  | .cmp op a b, X, W, c, es, C, tk, ok, h => by
    unfold chkIf at h
    split at h
    · obtain ⟨h, h4⟩ := and2 h
      obtain ⟨h, h3⟩ := and2 h
      obtain ⟨h1, h2⟩ := and2 h
      obtain rfl := of_decide_eq_true h1
      obtain ⟨r, ho, hz⟩ := cmp_ok (X := X) C.hu _
      exact ifs_one (wt_cmp ho hz (sndE a X W c _ C tk ok.1 h3) (sndE b X W c _ C tk ok.2 h4) (notB h2))
    · cases h
  | .chn op op' a b d, X, W, c, es, C, tk, ok, h => by
    unfold chkIf at h
    split at h
    · obtain ⟨h, h6⟩ := and2 h
      obtain ⟨h, h5⟩ := and2 h
      obtain ⟨h, h4⟩ := and2 h
      obtain ⟨h, h3⟩ := and2 h
      obtain ⟨h1, h2⟩ := and2 h
      obtain rfl := of_decide_eq_true h1
      obtain rfl := of_decide_eq_true h2
      obtain ⟨r, ho, hz⟩ := cmp_ok (X := X) C.hu _
      obtain ⟨r', ho', hz'⟩ := cmp_ok (X := X) C.hu _
      exact ifs_one (wt_chn ho hz ho' hz' (sndE a X W c _ C tk ok.1 h4) (sndE b X W c _ C tk ok.2.1 h5) (sndE d X W c _ C tk ok.2.2 h6) (notB h3))
    · cases h
  | .and q, X, W, c, es, C, tk, ok, h => by
    unfold chkIf at h
    split at h
    · exact ifs_one (sndTA q X W c _ _ C tk ok h).wt
    · cases h
  | .or q, X, W, c, es, C, tk, ok, h => by
    unfold chkIf at h
    split at h
    · exact ifs_one (sndTO q X W c _ _ C tk ok h).wt
    · cases h
  | .not t, X, W, c, es, C, tk, ok, h => by
    unfold chkIf at h
    split at h
    · exact ifs_one (wt_not (sndT t X W c _ C tk ok h))
    · cases h
theorem sndTA {k : Nat} : ∀ (q : ZTK) (X : Cx) (W : L2.WX) (c : SC) (es : List Expr) (pos : Pos), CtxOk X c k → L2N.Takes X W → okK (X.calm = true) (CalC X k) (GOk X) q → chkK c q es = true → WW X W (.BoolOp .And es pos) (wpTA q)
  | .one t, X, W, c, es, pos, C, tk, ok, h => by
    unfold chkK at h
    split at h
    · exact ww_and1 (sndT t X W c _ C tk ok h)
    · cases h
  | .cons t q, X, W, c, es, pos, C, tk, ok, h => by
    unfold chkK at h
    split at h
    · obtain ⟨h1, h2⟩ := and2 h
      exact ww_and (sndT t X W c _ C tk ok.1 h1) (sndTA q X W c _ pos C tk ok.2 h2)
    · cases h
theorem sndTO {k : Nat} : ∀ (q : ZTK) (X : Cx) (W : L2.WX) (c : SC) (es : List Expr) (pos : Pos), CtxOk X c k → L2N.Takes X W → okK (X.calm = true) (CalC X k) (GOk X) q → chkK c q es = true → WW X W (.BoolOp .Or es pos) (wpTO q)
  | .one t, X, W, c, es, pos, C, tk, ok, h => by
    unfold chkK at h
    split at h
    · exact ww_or1 (sndT t X W c _ C tk ok h)
    · cases h
  | .cons t q, X, W, c, es, pos, C, tk, ok, h => by
    unfold chkK at h
    split at h
    · obtain ⟨h1, h2⟩ := and2 h
      exact ww_or (sndT t X W c _ C tk ok.1 h1) (sndTO q X W c _ pos C tk ok.2 h2)
    · cases h
theorem sndVA {k : Nat} : ∀ (q : ZVK) (X : Cx) (W : L2.WX) (c : SC) (es : List Expr) (pos : Pos), CtxOk X c k → L2N.Takes X W → okV (X.calm = true) (CalC X k) (GOk X) q → chkV c q es = true → WE X W (.BoolOp .And es pos) (wpVA q)
  | .one t, X, W, c, es, pos, C, tk, ok, h => by
    unfold chkV at h
    split at h
    · exact we_one (sndE t X W c _ C tk ok h)
    · cases h
  | .cons t q, X, W, c, es, pos, C, tk, ok, h => by
    unfold chkV at h
    split at h
    · obtain ⟨h1, h2⟩ := and2 h
      exact we_and (sndE t X W c _ C tk ok.1 h1) (sndVA q X W c _ pos C tk ok.2 h2)
    · cases h
theorem sndVO {k : Nat} : ∀ (q : ZVK) (X : Cx) (W : L2.WX) (c : SC) (es : List Expr) (pos : Pos), CtxOk X c k → L2N.Takes X W → okV (X.calm = true) (CalC X k) (GOk X) q → chkV c q es = true → WE X W (.BoolOp .Or es pos) (wpVO q)
  | .one t, X, W, c, es, pos, C, tk, ok, h => by
    unfold chkV at h
    split at h
    · exact we_one (sndE t X W c _ C tk ok h)
    · cases h
  | .cons t q, X, W, c, es, pos, C, tk, ok, h => by
    unfold chkV at h
    split at h
    · obtain ⟨h1, h2⟩ := and2 h
      exact we_or (sndE t X W c _ C tk ok.1 h1) (sndVO q X W c _ pos C tk ok.2 h2)
    · cases h
theorem sndI {k : Nat} : ∀ (i : ZI) (X : Cx) (W : L2.WX) (c : SC) (tg pe : Expr), CtxOk X c k → L2N.Takes X W → okI (X.calm = true) (CalC X k) (GOk X) i → chkI c i tg pe = true → WI X W tg pe (wpI i)
  | .seq e, X, W, c, tg, pe, C, tk, ok, h => by
    unfold chkI at h
    exact wi_seq (sndE e X W c _ C tk ok h)
  | .rng1 a, X, W, c, tg, pe, C, tk, ok, h => by
    unfold chkI at h
    split at h
    · obtain ⟨h, h5⟩ := and2 h
      obtain ⟨h, h4⟩ := and2 h
      obtain ⟨h, h3⟩ := and2 h
      obtain ⟨h1, h2⟩ := and2 h
      obtain rfl := of_decide_eq_true h1
      exact wi_rng1 (C.gl h2) (C.bn _ (of_decide_eq_true h3)) (wa_cons (sndE a X W c _ C tk ok h5) wa_nil (star_of h4)) (star_of h4)
    · cases h
  | .rng2 a b, X, W, c, tg, pe, C, tk, ok, h => by
    unfold chkI at h
    split at h
    · obtain ⟨h, h7⟩ := and2 h
      obtain ⟨h, h6⟩ := and2 h
      obtain ⟨h, h5⟩ := and2 h
      obtain ⟨h, h4⟩ := and2 h
      obtain ⟨h, h3⟩ := and2 h
      obtain ⟨h1, h2⟩ := and2 h
      obtain rfl := of_decide_eq_true h1
      exact wi_rng2 (C.gl h2) (C.bn _ (of_decide_eq_true h3)) (wa_cons (sndE a X W c _ C tk ok.1 h6) (wa_cons (sndE b X W c _ C tk ok.2 h7) wa_nil (star_of h5)) (star_of h4)) (by rw [star_of h4, star_of h5]; rfl) (star_of h5)
    · cases h
  | .enum a, X, W, c, tg, pe, C, tk, ok, h => by
    unfold chkI at h
    split at h
    · obtain ⟨h, h6⟩ := and2 h
      obtain ⟨h, h5⟩ := and2 h
      obtain ⟨h, h4⟩ := and2 h
      obtain ⟨h, h3⟩ := and2 h
      obtain ⟨h1, h2⟩ := and2 h
      obtain rfl := of_decide_eq_true h1
      cases tg with
      | Tuple es n tp => exact wi_enum (C.gl h2) (C.bn _ (of_decide_eq_true h3)) (sndE a X W c _ C tk ok h5) (star_of h4)
      | _ => cases h6
    · cases h
  | .zip a b, X, W, c, tg, pe, C, tk, ok, h => by
    unfold chkI at h
    split at h
    · obtain ⟨h, h8⟩ := and2 h
      obtain ⟨h, h7⟩ := and2 h
      obtain ⟨h, h6⟩ := and2 h
      obtain ⟨h, h5⟩ := and2 h
      obtain ⟨h, h4⟩ := and2 h
      obtain ⟨h, h3⟩ := and2 h
      obtain ⟨h1, h2⟩ := and2 h
      obtain rfl := of_decide_eq_true h1
      cases tg with
      | Tuple es n tp => exact wi_zip (C.gl h2) (C.bn _ (of_decide_eq_true h3)) (sndE a X W c _ C tk ok.1 h6) (sndE b X W c _ C tk ok.2 h7) (star_of h4) (star_of h5) (by rw [star_of h5]; rfl)
      | _ => cases h8
    · cases h
  | .it1 o a, X, W, c, tg, pe, C, tk, ok, h => by
    unfold chkI at h
    split at h
    · rename_i pa e
      exact it1_ok o C e (sndE a X W c _ C tk ok h)
    · cases h
  | .it2 o a b, X, W, c, tg, pe, C, tk, ok, h => by
    unfold chkI at h
    split at h
    · rename_i ps e
      obtain ⟨h1, h2⟩ := and2 h
      exact it2_ok o C e (sndE a X W c _ C tk ok.1 h1) (sndE b X W c _ C tk ok.2 h2)
    · cases h
  | .it3 o a b d, X, W, c, tg, pe, C, tk, ok, h => by
    unfold chkI at h
    split at h
    · rename_i ps e
      obtain ⟨h, h3⟩ := and2 h
      obtain ⟨h1, h2⟩ := and2 h
      exact it3_ok o C e (sndE a X W c _ C tk ok.1 h1) (sndE b X W c _ C tk ok.2.1 h2) (sndE d X W c _ C tk ok.2.2 h3)
    · cases h
end
end Zd

set_option Elab.async false
set_option linter.all false
set_option maxRecDepth 100000
set_option maxHeartbeats 8000000
/-! Zd 12: soundness of the statements; a def's promise. -/
namespace Zd
open PySem PySem.Spec PyProof.Rows L2

mutual
theorem sndG {k : Nat} : ∀ (g : ZG) (X : Cx) (c : SC) (pe : Expr), CtxOk X c k → okG (X.calm = true) (CalC X k) (GOk X) g → (∃ W, L2N.Takes X W) → chkG c g pe = true → WG X pe (wpG g)
  | .nm i, X, c, pe, C, ok, tk, h => by
    unfold chkG at h
    split at h
    · obtain ⟨h1, h2⟩ := and2 h
      obtain ⟨hl, hf⟩ := C.st _ h2
      exact wg_name (pg_name C.nd (by rw [C.nN]; exact of_decide_eq_true h1) hl hf)
    · cases h
  | .tup n gs, X, c, pe, C, ok, tk, h => by
    unfold chkG at h
    split at h
    · rename_i es _ _
      obtain ⟨h1, h2⟩ := and2 h
      have hl : es.length = n := of_decide_eq_true h1
      have hs := chkGs_star h2
      have ih := sndGs gs X c es C ok tk h2
      have hin : ∀ v σ H Q, liftGs X.K (fun xs τ M Q => xs.length = n ∧ wpGs gs xs τ M Q) v σ H Q → liftGs X.K (wpGs gs) v σ H Q := fun v σ H Q q => by
        obtain ⟨P, xs, τ, M, Q', r, st, sm, hq, hk⟩ := q
        exact ⟨P, xs, τ, M, Q', r, st, sm, hq.2, hk⟩
      have hall : ∀ (kk : Nat) (q : Pos), WG X (.Tuple es kk q) (wgTup fun xs τ M Q => xs.length = n ∧ wpGs gs xs τ M Q) := fun kk q => by
        by_cases hcm : X.calm = true
        · exact wg_tup (n := n) hcm (PGs.imp ih hin) (fun _ _ _ _ q => q.1) (by rw [(assigns_len hs).1, hl]) (assigns_len hs).2
        · exact wg_tupH (n := n) (C.ch.resolve_left hcm) (PGs.imp ih hin) (fun _ _ _ _ q => q.1) (by rw [(assigns_len hs).1, hl]) (assigns_len hs).2
      refine PG.imp (hall _ _) fun v σ H Q q => ?_
      obtain ⟨P, x, τ, M, Q', r, st, sm, hq, hk⟩ := q
      exact ⟨P, x, τ, M, Q', r, st, sm, hq, hk⟩
    · cases h
  | .ix o i, X, c, pe, C, ok, tk, h => by
    unfold chkG at h
    split at h
    · rename_i po pi pos
      obtain ⟨h, h3⟩ := and2 h
      obtain ⟨h1, h2⟩ := and2 h
      obtain ⟨W, tk⟩ := tk
      refine wg_ix (by have := C.hu; omega) (sndE o X W c _ C tk ok.1 h2) (sndE i X W c _ C tk ok.2 h3) fun v => ?_
      cases pi <;> first | exact Bool.noConfusion h1 | rfl
    · cases h
theorem sndGs {k : Nat} : ∀ (gs : ZGs) (X : Cx) (c : SC) (es : List Expr), CtxOk X c k → okGs (X.calm = true) (CalC X k) (GOk X) gs → (∃ W, L2N.Takes X W) → chkGs c gs es = true → WGs X es (wpGs gs)
  | .nil, X, c, es, C, ok, tk, h => by
    unfold chkGs at h
    split at h
    · exact wgs_nil
    · cases h
  | .cons g gs, X, c, es, C, ok, tk, h => by
    unfold chkGs at h
    split at h
    · obtain ⟨h, h3⟩ := and2 h
      obtain ⟨h1, h2⟩ := and2 h
      refine wgs_cons (sndG g X c _ C ok.1 tk h2) (sndGs gs X c _ C ok.2 tk h3) ?_
      rw [assignEach_of h1]
      rfl
    · cases h
end
structure CtxS (X : Cx) (c : SC) (k : Nat) : Prop extends CtxOk X c k where
  kind : X.env.scope.kind = .function
  po : PassesOwn (model X.prog X.w) X.A X.env X.xe
  stk : X.stack = X.env :: X.outer
  frm : X.env.frame = some X.env.locals
theorem blockKind_of {env : Env} (h : env.scope.kind = .function) : env.blockKind = .function := by
  unfold Env.blockKind
  rw [h]
  rfl
theorem swa_core {env : Env} {sc s : Scope} {t : Str} {e : Expr} {gs : List Comprehension} {p vp : Pos} {l : Nat} (hs : env.scope = sc) (h : swB sc (.ListComp e gs s vp) t p = false) : swapsWith (.ListComp e gs s vp) (some (.Name t p)) l env = pure false := by
  show swapsWith (.ListComp e gs s vp) (some (.Name t p)) l env = pure false
  unfold swapsWith
  have e1 : (env.blockKind == .function && env.kindOf t == some .local && p.line == vp.line && !(s.names.any fun (n, k) => n == t && (k == .local || k == .cell))) = false := by
    unfold swB at h
    dsimp only at h
    have hk : env.kindOf t = sc.names.lookup t := by unfold Env.kindOf; rw [hs]
    rw [hk]
    by_cases a1 : sc.names.lookup t = some .local
    · by_cases a2 : p.line = vp.line
      · rw [decide_eq_true a1, decide_eq_true a2] at h
        simp only [Bool.true_and] at h
        rw [h]
        simp
      · have : (p.line == vp.line) = false := by simpa using a2
        rw [this]; simp
    · have : (sc.names.lookup t == some .local) = false := by simpa using a1
      rw [this]; simp
  show (pure _ : Sem Bool) = pure false
  congr 1
theorem names_short {env : Env} {line : Nat} : ∀ {ts : List Expr}, ts.any notNm = true → (ts.filterMap fun
    | .Name id pos => if env.kindOf id == some .local && pos.line == line then some id else none
    | _ => none).length < ts.length := fun {ts} => by
  have le : ∀ ts : List Expr, (ts.filterMap fun
    | .Name id pos => if env.kindOf id == some .local && pos.line == line then some id else none
    | _ => none).length ≤ ts.length := fun ts => List.length_filterMap_le _ _
  induction ts with
  | nil => intro h; cases h
  | cons t ts ih =>
    intro h
    rw [List.any_cons, Bool.or_eq_true] at h
    rcases h with h | h
    · have := le ts
      cases t <;> first | exact Bool.noConfusion h | (rw [List.filterMap_cons_none rfl, List.length_cons]; omega)
    · have := ih h
      rw [List.length_cons]
      rw [List.filterMap_cons]
      split
      · omega
      · rw [List.length_cons]; omega
theorem swapped_none {env : Env} {es vs : List Expr} {k k2 : Nat} {p p2 : Pos} (h : vs.all (foldedForSure 8) = true ∨ es.any notNm = true) : swappedStores [.Tuple es k p] (.Tuple vs k2 p2) env = pure none := by
  unfold swappedStores
  dsimp only
  split
  · rfl
  · split
    · rfl
    · split
      · rfl
      · rename_i h3
        rcases h with h | h
        · rw [if_pos h]
        · exfalso
          rw [Bool.or_eq_true, not_or] at h3
          have h5 := names_short (env := env) (line := (es.head?.map (·.pos.line)).getD 0) h
          refine h3.1 ?_
          rw [bne_iff_ne]
          exact Nat.ne_of_lt h5
theorem swaps_asg {env : Env} {sc : Scope} {tg pe : Expr} {l : Nat} (hs : env.scope = sc) (h : asgB sc tg pe = true) : swapsWithSole [tg] pe l env = pure false ∧ swappedStores [tg] pe env = pure none ∧ (assignEach [tg] env).map (·.2) = [assign tg env] := by
  cases tg with
  | Name t p =>
    refine ⟨?_, by cases pe <;> rfl, rfl⟩
    cases pe with
    | ListComp e gs s vp => exact swa_core (l := l) hs (notB h)
    | DictComp k v gs s vp => exact swa_core (l := l) (e := k) (gs := gs) hs (notB h)
    | _ => first | rfl | (unfold asgB at h; exact Bool.noConfusion h)
  | Tuple es k p =>
    refine ⟨?_, ?_, rfl⟩
    · cases pe <;> first | rfl | exact Bool.noConfusion h
    · cases pe with
      | Tuple vs k2 p2 =>
        have h : (vs.all (foldedForSure 8) || es.any notNm) = true := h
        rw [Bool.or_eq_true] at h
        exact swapped_none h
      | _ => rfl
  | Subscript o i p =>
    refine ⟨?_, by cases pe <;> rfl, rfl⟩
    cases pe <;> rfl
  | _ => exact Bool.noConfusion h
theorem swaps_par {env : Env} {sc : Scope} {x y : Str} {px py pt pt2 : Pos} {k1 k2 : Nat} {a b : Expr} (hs : env.scope = sc) (hk : env.scope.kind = .function) (h : parB sc x y px py a b = true) :
    swappedStores [.Tuple [.Name x px, .Name y py] k1 pt] (.Tuple [a, b] k2 pt2) env = pure (some [x, y]) ∧ sc.names.lookup x = some .local ∧ sc.names.lookup y = some .local ∧ x ≠ y ∧ nost a = true ∧ nost b = true := by
  unfold parB at h
  obtain ⟨h, h8⟩ := and2 h
  obtain ⟨h, h7⟩ := and2 h
  obtain ⟨h, h6⟩ := and2 h
  obtain ⟨h, h5⟩ := and2 h
  obtain ⟨h, h4⟩ := and2 h
  obtain ⟨h, h3⟩ := and2 h
  obtain ⟨h1, h2⟩ := and2 h
  have h1 := of_decide_eq_true h1
  have h2 := of_decide_eq_true h2
  have h3 := of_decide_eq_true h3
  have h4 : x ≠ y := of_decide_eq_false (notB h4)
  refine ⟨?_, h1, h2, h4, h5, h6⟩
  have kx : env.kindOf x = some .local := by unfold Env.kindOf; rw [hs]; exact h1
  have ky : env.kindOf y = some .local := by unfold Env.kindOf; rw [hs]; exact h2
  have sa : ∀ e : Expr, nost e = true → (match e with | .Starred .. => true | _ => false) = false := fun e h => by
    cases e <;> first | exact Bool.noConfusion h | rfl
  have s1 := sa a h5
  have s2 := sa b h6
  unfold swappedStores
  have bk := blockKind_of hk
  have h7 := notB h7
  have h8 := notB h8
  have ne2 : (y == x) = false := by simpa using Ne.symm h4
  simp [kx, ky, bk, h3, Expr.pos, List.eraseDups_cons, ne2, h7, h8]
  cases a <;> cases b <;> first | exact Bool.noConfusion h5 | exact Bool.noConfusion h6 | simp [h7, h8]
theorem swaps_lc {env : Env} {sc : Scope} {e : Expr} {gs : List Comprehension} {s : Scope} {vp p : Pos} {t : Str} {l : Nat} (hs : env.scope = sc) (hk : env.scope.kind = .function) (h : swB sc (.ListComp e gs s vp) t p = true) :
    swapsWith (.ListComp e gs s vp) (some (.Name t p)) l env = pure true ∧ env.scope.names.lookup t = some .local := by
  unfold swB at h
  dsimp only at h
  obtain ⟨h, h3⟩ := and2 h
  obtain ⟨h1, h2⟩ := and2 h
  have h1 := of_decide_eq_true h1
  have h2 := of_decide_eq_true h2
  refine ⟨sw_true hk (by rw [hs]; exact h1) (by rw [h2]; simp) (notB h3), by rw [hs]; exact h1⟩
theorem swaps_dc {env : Env} {sc : Scope} {e v : Expr} {gs : List Comprehension} {s : Scope} {vp p : Pos} {t : Str} {l : Nat} (hs : env.scope = sc) (hk : env.scope.kind = .function) (h : swB sc (.DictComp e v gs s vp) t p = true) :
    swapsWith (.DictComp e v gs s vp) (some (.Name t p)) l env = pure true ∧ env.scope.names.lookup t = some .local := swaps_lc (l := l) (e := e) (gs := gs) hs hk h
/-! ### += and -= -/
def rAugAdd : R2 := fun x y H Q => rI0 (fun i j => .int (i + j)) x y H Q ∨ ∃ i j, x = .str i ∧ y = .str j ∧ i.length + j.length ≤ sizeLine ∧ Q (.str (i ++ j)) H
theorem aug_ok {X : Cx} (op : Operator) : ∃ r, OpR X (inplaceOp op) r ∧ OpZ X.K r (augP op) := by
  cases op with
  | Add => exact ⟨rAugAdd, iop_add.or iop_add_str, fun x y v u H M Q' Q sm rx ry q k => by
      cases x with
      | int i => cases y with
        | int j => exact .inl ⟨i, j, rx, ry, k.now (x := .int (i + j)) sm rfl q⟩
        | _ => exact q.elim
      | str i => cases y with
        | str j => exact .inr ⟨i, j, rx, ry, q.1, k.now (x := .str (i ++ j)) sm rfl q.2⟩
        | _ => exact q.elim
      | _ => exact q.elim⟩
  | Sub => exact ⟨_, iop_sub, oz_ii⟩
  | _ => exact ⟨fun _ _ _ _ => False, fun _ _ _ _ _ _ _ _ _ _ _ _ h => h.elim, fun _ _ _ _ _ _ _ _ _ _ _ h _ => h.elim⟩
section
variable {X : Cx} {W : L2.WX} {pos p : Pos}
theorem ws_par {i j : Nat} {x y : Str} {a b : Expr} {wa wb : ZWe} {px py pt pt2 : Pos} {k1 k2 : Nat} {c : SC} {k : Nat} (C : CtxS X c k) (hcm : X.calm = true) (hi : c.N[i]? = some x) (hj : c.N[j]? = some y) (h : parB c.sc x y px py a b = true) (ha : WE X W a wa) (hb : WE X W b wb) :
    WS X W (.Assign [.Tuple [.Name x px, .Name y py] k1 pt] (.Tuple [a, b] k2 pt2) pos) (fun J nx τ M => wa (J.ex τ) τ M fun x M1 => wb (J.ex τ) τ M1 fun y M2 => nx ((τ.set i (some x)).set j (some y)) M2) := by
  obtain ⟨h1, h2, h3, h4, h5, h6⟩ := swaps_par (pt := pt) (pt2 := pt2) (k1 := k1) (k2 := k2) C.sc C.kind h
  have hij : i ≠ j := fun z => by subst z; rw [hi] at hj; cases hj; exact h4 rfl
  refine PS.imp (ps_par hcm C.nd (by rw [C.nN]; exact hi) (by rw [C.nN]; exact hj) hij (by rw [C.sc]; exact h2) (by rw [C.sc]; exact h3) (wa_cons ha (wa_cons hb wa_nil (star_of h6)) (star_of h5)) h1) fun D σ H h => ?_
  exact lift_par h
theorem ws_aug {i : Nat} {op : Operator} {x : Str} {e : Expr} {we : ZWe} {c : SC} {k : Nat} (C : CtxS X c k) (hi : c.N[i]? = some x) (hst : c.st x = true) (he : WE X W e we) :
    WS X W (.AugAssign (.Name x p) op e pos) (fun J nx τ M => getP τ i M fun x _ => we (J.ex τ) τ M fun y M1 => augP op x y M1 fun z M2 => nx (τ.set i (some z)) M2) := by
  obtain ⟨r, ho, hz⟩ := aug_ok (X := X) op
  obtain ⟨hl, hf⟩ := C.st _ hst
  refine PS.imp (ps_aug C.nd (by rw [C.nN]; exact hi) hl he ho hf) fun D σ H h => lift_aug hz ?_
  obtain ⟨P, J, nx, τ, M, st, sm, hw, hn, hj⟩ := h
  refine ⟨P, J, nx, τ, M, st, sm, ?_, hn, hj⟩
  revert hw
  unfold getP wAug
  generalize τ[i]? = o
  intro hw
  cases o with
  | none => exact hw.elim
  | some o => cases o with
    | none => exact hw.elim
    | some z => exact hw
theorem gi_ok (hu : X.A.units + 1 < cLine) : OpR X getItem (fun x y H Q => rIxL X.K x y H Q ∨ rIxDic x y H Q) := by
  intro pins s σ H x y v u Q I rx ry h
  rcases h with ⟨p, xs, i, z, rfl, rfl, hq, he, q⟩ | ⟨a, z, rfl, g, q⟩
  · cases rx
    obtain ⟨t, rfl⟩ := ry
    obtain ⟨its, r, pl, hz⟩ := I.list hq
    obtain ⟨j, h1, h2, h3, h4, h5⟩ := atI_get he
    obtain ⟨w, ew, rw'⟩ := r.get h2
    have hl := r.length
    have hn := line63
    have fin : EP X pins σ Q w s := ⟨z, H, I, rw', q⟩
    by_cases h0 : 0 ≤ i
    · have hj : i.toNat = j := by
        rw [seqIndex_of h0 h5] at h1
        exact Option.some.inj h1
      exact wpAny_getItem_list pl.isList h0 (by omega) (by rw [hj]; simpa using ew) fin
    · have hj : (i + (its.toArray.size : Int)).toNat = j := by
        rw [seqIndex_neg (by omega) h4] at h1
        rw [List.size_toArray, ← hl]
        exact Option.some.inj h1
      exact wpAny_getItem_list_neg pl.isList (by omega) (by rw [List.size_toArray] <;> omega) (by omega) (by rw [hj]; simpa using ew) fin
  · obtain rfl : v = Value.ref a := rx
    exact d_getItem hu I g ry fun w' s3 I3 rw' => ⟨z, H, I3, rw', q⟩
theorem item_z {K : PySem.W.Frag} : OpZ K (fun x y H Q => rIxL K x y H Q ∨ rIxDic x y H Q) itemP := fun x y v u H M Q' Q sm rx ry q k => by
  cases x with
  | ref p =>
    obtain rfl : v = .ref p := rx
    have q : ixP (.ref p) y M Q' := q
    cases e0 : lget M p with
    | some xs =>
      cases y with
      | int i =>
        dsimp only [ixP] at q
        rw [e0] at q
        dsimp only at q
        split at q
        · rename_i z e
          obtain ⟨vs, sa, ra⟩ := sm.lget e0
          obtain ⟨w, h1, h2⟩ := ra.atI e
          exact .inl ⟨p, vs, i, w, rfl, ry, sa, h1, k.now sm h2 q⟩
        · exact q.elim
      | _ => dsimp only [ixP] at q; rw [e0] at q; exact q.elim
    | none =>
      have q2 : (match dicOf (.ref p) M with
        | some kvs => ∃ q z, keyOf y = some q ∧ valZ kvs q = some z ∧ Q' z M
        | none => False) := by
        cases y <;> (dsimp only [ixP] at q; rw [e0] at q; exact q)
      cases e1 : dicOf (.ref p) M with
      | none => rw [e1] at q2; exact q2.elim
      | some kvs =>
        rw [e1] at q2
        obtain ⟨key, z, hk, hz, q2⟩ := q2
        obtain ⟨a, ws, ea, ea2, ha, rk⟩ := dic_of (d := .ref p) (v := .ref p) sm rfl e1
        cases ea
        obtain rfl := keyOf_R ry hk
        rcases kr_val key rk with ⟨g1, g2⟩ | ⟨y', u', g1, g2, ru⟩
        · rw [g1] at hz; cases hz
        · rw [g1] at hz; cases hz
          exact .inr ⟨p, u', rfl, by rw [← g2]; exact DGet.k ha, k.now sm ru q2⟩
  | _ => exact q.elim
def sAugx (K : PySem.W.Frag) (td ty tv : TE) (rd : R2) : TS := fun D σ H => td σ H fun x H1 => ty σ H1 fun y H2 =>
  (fun Q => rIxL K x y H2 Q ∨ rIxDic x y H2 Q) fun v H3 => tv σ H3 fun z H4 => rd v z H4 fun r H5 => rSetL x y r H5 (D.nx σ) ∨ rSetD x y r H5 (D.nx σ)
theorem ps_augx {o i value : Expr} {tpos : Pos} {td ty tv : TE} {op : Operator} {rd : R2} (hu : X.A.units + 1 < cLine) (ho : PE X o td) (hi : PE X i ty) (hv : PE X value tv) (hop : OpR X (inplaceOp op) rd)
    (ha : ∀ ov iv new, augStore i ov iv new = (do holding [new, ov, iv] (setItem ov iv new); release [new, ov, iv] []; pure .next)) : PS X (.AugAssign (.Subscript o i tpos) op value pos) (sAugx X.K td ty tv rd) := by
  refine ⟨fun pins s σ H D I h => ?_⟩
  refine wpAny_AugAssign_SubscriptAny (thn (ho.run pins s σ H _ I h) fun u s1 ⟨x, H1, I1, rx, q1⟩ => thn (hi.run pins s1 σ H1 _ I1 q1) fun iv s2 ⟨y, H2, I2, ry, q2⟩ => ?_) ha
  refine thn (gi_ok hu pins s2 σ H2 x y u iv _ I2 rx ry q2) fun w s3 ⟨v, H3, I3, rv, q3⟩ => thn (hv.run pins s3 σ H3 _ I3 q3) fun w2 s4 ⟨z, H4, I4, rz, q4⟩ => thn (hop pins s4 σ H4 v z w w2 _ I4 rv rz q4) fun w3 s5 ⟨r, H5, I5, rr, q5⟩ => ?_
  refine thn (pset_or set_list (set_dict hu) pins s5 σ H5 x y r u iv w3 _ I5 rx ry rr q5) fun _ s6 ⟨H6, I6, q6⟩ => ?_
  exact ⟨σ, H6, I6, q6⟩
theorem augStore_of {i : Expr} (h : plainIx i = true) : ∀ ov iv new, augStore i ov iv new = (do holding [new, ov, iv] (setItem ov iv new); release [new, ov, iv] []; pure .next) := by
  intro ov iv new
  cases i <;> first | exact Bool.noConfusion h | rfl
theorem ws_augx {o i e : Expr} {wo wi we : ZWe} {op : Operator} {tpos : Pos} (hu : X.A.units + 1 < cLine) (ho : WE X W o wo) (hi : WE X W i wi) (he : WE X W e we) (h : plainIx i = true) :
    WS X W (.AugAssign (.Subscript o i tpos) op e pos) (fun J nx τ M => wo (J.ex τ) τ M fun x M1 => wi (J.ex τ) τ M1 fun y M2 => itemP x y M2 fun v M3 => we (J.ex τ) τ M3 fun z M4 => augP op v z M4 fun r M5 => setP x y r M5 fun M6 => nx τ M6) := by
  obtain ⟨r, hop, hz⟩ := aug_ok (X := X) op
  refine PS.imp (ps_augx hu ho hi he hop (augStore_of h)) fun D σ H h => ?_
  obtain ⟨P, J, nx, τ, M, st, sm, hw, hn, hj⟩ := h
  have hE := hj.ex _ _ _ Le.refl st
  refine ⟨P, J.ex τ, τ, M, _, st, sm, hw, fun v H1 x M1 l1 sm1 r1 h1 => ?_, hE⟩
  refine ⟨P, J.ex τ, τ, M1, _, st.mono l1, sm1, h1, fun u H2 y M2 l2 sm2 r2 h2 => ?_, hE.mono l1⟩
  refine item_z x y v u H2 M2 _ _ sm2 (R.mono l2 _ _ r1) r2 h2 fun ov H3 old M3 l3 sm3 r3 h3 => ?_
  have l13 := (l1.trans l2).trans l3
  refine ⟨P, J.ex τ, τ, M3, _, st.mono l13, sm3, h3, fun zv H4 z M4 l4 sm4 r4 h4 => ?_, hE.mono l13⟩
  refine hz old z ov zv H4 M4 _ _ sm4 (R.mono l4 _ _ r3) r4 h4 fun nv H5 new M5 l5 sm5 r5 h5 => ?_
  have l15 := (l13.trans l4).trans l5
  exact setP_of sm5 (R.mono (((l2.trans l3).trans l4).trans l5) _ _ r1) (R.mono ((l3.trans l4).trans l5) _ _ r2) r5 h5 fun H6 M6 l6 sm6 h6 => hn _ _ _ _ (l15.trans l6) (st.mono (l15.trans l6)) sm6 h6
theorem ws_never {st : Stmt} : WS X W st (fun _ _ _ _ => False) := PS.imp ps_never fun D σ H h => by
  obtain ⟨P, J, nx, τ, M, st, sm, hw, hn, hj⟩ := h
  exact hw
end
/-! ### a suite that calls -/
section
variable {X : Cx} {c : SC} {k i : Nat} {n : Str} {fl : List Str} {a A fI d0 : Addr} {oe : Obj} {pn : List (Addr × Obj)} {fs : List (Str × PV)}
theorem ctx_suite (C : CtxOk X c k) (h : L2H.HotC (X.suite a pn)) : CtxOk (X.suite a pn) c k := ⟨C.nN, C.nd, C.sc, .inr h, C.hu, fun z => Bool.noConfusion (show false = true from z), ⟨C.roomH.dp, C.roomH.un⟩, C.st, C.bn⟩
structure SuOk (X : Cx) (c : SC) (k i : Nat) (n : Str) (fl : List Str) (a A d0 : Addr) (oe : Obj) (pn : List (Addr × Obj)) (fs : List (Str × PV)) : Prop where
  cx : CtxOk (X.suite a ((a, oe) :: pn)) c k
  hot : L2H.HotC (X.suite a ((a, oe) :: pn))
  fld : ∀ (f : Str) (p pos : Pos), f ∈ fl → WE (X.suite a ((a, oe) :: pn)) (fun _ _ _ _ => False) (.Attribute (.Name n p) f pos) (wFld i f ⟨a, d0, xφ X.K d0 fs, fs⟩)
theorem sndSB (S : SuOk X c k i n fl a A d0 oe pn fs) : ∀ (b : SB) (e : Expr), okSB (CalH X k) (GOk X) b → chkSB c fl n b e = true → WE (X.suite a ((a, oe) :: pn)) (fun _ _ _ _ => False) e (wSB i b ⟨a, d0, xφ X.K d0 fs, fs⟩)
  | .fld f, e, ok, h => by
    unfold chkSB at h
    dsimp only at h
    split at h
    · obtain ⟨h, h3⟩ := and2 h
      obtain ⟨h1, h2⟩ := and2 h
      obtain rfl := of_decide_eq_true h1
      obtain rfl := of_decide_eq_true h2
      exact S.fld _ _ _ (of_decide_eq_true h3)
    · cases h
  | .z z, e, ok, h => sndE z _ _ c _ S.cx takesF ok h
theorem sndSA (S : SuOk X c k i n fl a A d0 oe pn fs) : ∀ (b : SA) (e : Expr), okSA (CalH X k) (GOk X) b → chkSA c fl n b e = true → WE (X.suite a ((a, oe) :: pn)) (fun _ _ _ _ => False) e (wSA i b ⟨a, d0, xφ X.K d0 fs, fs⟩)
  | .one b, e, ok, h => sndSB S b e ok h
  | .two b b', e, ok, h => by
    unfold chkSA at h
    dsimp only at h
    split at h
    · obtain ⟨h, h4⟩ := and2 h
      obtain ⟨h, h3⟩ := and2 h
      obtain ⟨h1, h2⟩ := and2 h
      exact we_tup (wa_cons (sndSB S b _ ok.1 h2) (wa_cons (sndSB S b' _ ok.2 h4) wa_nil (star_of h3)) (star_of h1))
    · cases h
theorem sndSJ (S : SuOk X c k i n fl a A d0 oe pn fs) : ∀ (j : SJ) (e : Expr), okSJ (CalH X k) (GOk X) j → chkSJ c fl n j e = true → WE (X.suite a ((a, oe) :: pn)) (fun _ _ _ _ => False) e (wSJ i j ⟨a, d0, xφ X.K d0 fs, fs⟩)
  | .z z, e, ok, h => sndE z _ _ c _ S.cx takesF ok h
  | .same x m sp l r, e, ok, h => by
    unfold chkSJ at h
    dsimp only at h
    split at h
    · obtain ⟨h, h7⟩ := and2 h
      obtain ⟨h, h6⟩ := and2 h
      obtain ⟨h, h5⟩ := and2 h
      obtain ⟨h, h4⟩ := and2 h
      obtain ⟨h, h3⟩ := and2 h
      obtain ⟨h1, h2⟩ := and2 h
      obtain rfl := of_decide_eq_true h1
      exact we_callH (ok.1.hot rfl).2 S.cx.roomH S.hot takesF (S.cx.gl h2) (okNm_of h3).1 (wa_cons (sndSA S l _ ok.2.1 h5) (wa_cons (sndSA S r _ ok.2.2 h7) wa_nil (star_of h6)) (star_of h4)) (star_of h4) (backs_of (by rw [List.all_cons, h6]; rfl))
    · cases h
theorem sndSJl (S : SuOk X c k i n fl a A d0 oe pn fs) : ∀ (js : List SJ) (es : List Expr) (pos : Pos), okSJs (CalH X k) (GOk X) js → chkSJl c fl n js es = true → WE (X.suite a ((a, oe) :: pn)) (fun _ _ _ _ => False) (.BoolOp .And es pos) (wSJs i js ⟨a, d0, xφ X.K d0 fs, fs⟩)
  | [], es, pos, ok, h => ok.elim
  | [s], es, pos, ok, h => by
    unfold chkSJl at h
    split at h
    · exact we_one (sndSJ S s _ ok h)
    · cases h
  | s :: t :: r, es, pos, ok, h => by
    unfold chkSJl at h
    split at h
    · rename_i e es
      obtain ⟨h1, h2⟩ := and2 h
      cases es with
      | nil => cases r <;> (unfold chkSJl at h2; cases h2)
      | cons e2 es => exact we_and (sndSJ S s _ ok.1 h1) (sndSJl S (t :: r) (e2 :: es) pos ok.2 h2)
    · cases h
theorem sndSJs (S : SuOk X c k i n fl a A d0 oe pn fs) (js : List SJ) (e : Expr) (ok : okSJs (CalH X k) (GOk X) js) (h : chkSJs c fl n js e = true) : WE (X.suite a ((a, oe) :: pn)) (fun _ _ _ _ => False) e (wSJs i js ⟨a, d0, xφ X.K d0 fs, fs⟩) := by
  unfold chkSJs at h
  split at h
  · cases h
  · exact sndSJ S _ _ ok h
  · split at h
    · exact sndSJl S _ _ _ ok h
    · cases h
end
mutual
theorem sndS {k : Nat} : ∀ (s : ZS) (X : Cx) (W : L2.WX) (c : SC) (ps : Stmt), CtxS X c k → L2N.Takes X W → okS (X.calm = true) (CalC X k) (CalH X k) (GOk X) s → chkS c s ps = true → WS X W ps (wpS s)
  | .nil, X, W, c, ps, C, tk, ok, h => by unfold chkS at h; cases h
  | .seq _ _, X, W, c, ps, C, tk, ok, h => by unfold chkS at h; cases h
  | .pass, X, W, c, ps, C, tk, ok, h => by
    unfold chkS at h
    split at h
    · exact ws_pass
    · cases h
  | .brk, X, W, c, ps, C, tk, ok, h => by
    unfold chkS at h
    split at h
    · exact ws_break
    · cases h
  | .cont, X, W, c, ps, C, tk, ok, h => by
    unfold chkS at h
    split at h
    · exact ws_cont
    · cases h
  | .expr e, X, W, c, ps, C, tk, ok, h => by
    unfold chkS at h
    split at h
    · obtain ⟨h1, h2⟩ := and2 h
      exact ws_expr (sndE e X W c _ C.toCtxOk tk ok h2) (notCp_of h1)
    · cases h
  | .ret e, X, W, c, ps, C, tk, ok, h => by
    unfold chkS at h
    split at h
    · exact ws_ret (sndE e X W c _ C.toCtxOk tk ok h)
    · cases h
  | .retn, X, W, c, ps, C, tk, ok, h => by
    unfold chkS at h
    split at h
    · exact ws_retN
    · cases h
  | .ifs t a b, X, W, c, ps, C, tk, ok, h => by
    unfold chkS at h
    split at h
    · obtain ⟨h, h3⟩ := and2 h
      obtain ⟨h1, h2⟩ := and2 h
      exact ws_if (sndT t X W c _ C.toCtxOk tk ok.1 h1) (sndB a X W c _ C tk ok.2.1 h2) (sndB b X W c _ C tk ok.2.2 h3)
    · cases h
  | .asg g e, X, W, c, ps, C, tk, ok, h => by
    unfold chkS at h
    split at h
    · rename_i tg pe p
      obtain ⟨h, h3⟩ := and2 h
      obtain ⟨h1, h2⟩ := and2 h
      rw [Bool.or_eq_true] at h3
      rcases h3 with h3 | h3
      · obtain ⟨s1, s2, s3⟩ := swaps_asg (l := p.line) C.sc h3
        exact ws_asg (sndE e X W c _ C.toCtxOk tk ok.2 h2) (sndG g X c _ C.toCtxOk ok.1 ⟨W, tk⟩ h1) s1 s2 s3
      · split at h3
        · rename_i t q
          cases g with
          | nm i =>
            unfold chkG at h1
            obtain ⟨g1_, g2_⟩ := and2 h1
            cases pe with
            | ListComp elt gs s vp =>
              cases e with
              | lc own g it t' e' =>
                obtain ⟨w1, w2⟩ := swaps_lc (l := p.line) C.sc C.kind h3
                have hcm : X.calm = true := ok.2.1
                have oke : okI (X.calm = true) (CalC X k) (GOk X) it ∧ okT (X.calm = true) (CalC X k) (GOk X) t' ∧ okE (X.calm = true) (CalC X k) (GOk X) e' := ok.2.2
                unfold chkE at h2
                split at h2
                · rename_i heq
                  cases heq
                  obtain ⟨h, h6⟩ := and2 h2
                  obtain ⟨h, h5⟩ := and2 h
                  obtain ⟨h, h4⟩ := and2 h
                  obtain ⟨h, h7⟩ := and2 h
                  obtain ⟨h8, h9⟩ := and2 h
                  exact ws_setLc hcm C.nd (by rw [C.nN]; exact of_decide_eq_true g1_) w2 w1 (sndI it X W c _ _ C.toCtxOk tk oke.1 h7) (blkOk_by (by rw [C.nN, C.sc]; exact h8)) (fun s H a cl fp => sndV g _ _ _ _ (C.toCtxOk.blk hcm s H a cl fp) hcm h4)
                    (fun s H a cl fp => sndIf t' _ W0 _ _ (C.toCtxOk.blk hcm s H a cl fp) takesF oke.2.1 h5) (fun s H a cl fp => sndE e' _ W0 _ _ (C.toCtxOk.blk hcm s H a cl fp) takesF oke.2.2 h6) (notSet_of h9)
                · cases h2
              | lc2 own g it t' vs1 g1 it1 t1 e' =>
                obtain ⟨w1, w2⟩ := swaps_lc (l := p.line) C.sc C.kind h3
                have hcm : X.calm = true := ok.2.1
                have oke : okI (X.calm = true) (CalC X k) (GOk X) it ∧ okT (X.calm = true) (CalC X k) (GOk X) t' ∧ okE (X.calm = true) (CalC X k) (GOk X) e' ∧ okI (X.calm = true) (CalC X k) (GOk X) it1 ∧ okT (X.calm = true) (CalC X k) (GOk X) t1 := ok.2.2
                unfold chkE at h2
                split at h2
                · rename_i heq
                  cases heq
                  obtain ⟨h, h11⟩ := and2 h2
                  obtain ⟨h, h10⟩ := and2 h
                  obtain ⟨h, h9⟩ := and2 h
                  obtain ⟨h, h8⟩ := and2 h
                  obtain ⟨h, h7⟩ := and2 h
                  obtain ⟨h, h6⟩ := and2 h
                  obtain ⟨h, h5⟩ := and2 h
                  obtain ⟨h, h4⟩ := and2 h
                  obtain ⟨h, q3⟩ := and2 h
                  obtain ⟨q1, q2⟩ := and2 h
                  exact ws_setLc2 hcm C.nd (by rw [C.nN]; exact of_decide_eq_true g1_) w2 w1 (sndI it X W c _ _ C.toCtxOk tk oke.1 q3) (blkOk_by (by rw [C.nN, C.sc]; exact q1)) (fun i hi => of_decide_eq_true (List.all_eq_true.mp h8 i hi)) (fun s H a cl fp => sndV g _ _ _ _ (C.toCtxOk.blk hcm s H a cl fp) hcm h4)
                    (fun s H a cl fp => sndIf t' _ W0 _ _ (C.toCtxOk.blk hcm s H a cl fp) takesF oke.2.1 h5) (fun s H a cl fp => sndI it1 _ W0 _ _ _ (C.toCtxOk.blk hcm s H a cl fp) takesF oke.2.2.2.1 h9) (fun s H a cl fp => sndV g1 _ _ _ _ (C.toCtxOk.blk hcm s H a cl fp) hcm h10)
                    (fun s H a cl fp => sndIf t1 _ W0 _ _ (C.toCtxOk.blk hcm s H a cl fp) takesF oke.2.2.2.2 h11) (fun s H a cl fp => sndE e' _ W0 _ _ (C.toCtxOk.blk hcm s H a cl fp) takesF oke.2.2.1 h6) (notSet_of q2) (fun env => notSet_of h7)
                · cases h2
              | op1 o a => unfold chkE at h2; cases o <;> exact Bool.noConfusion h2
              | op2 o a b => unfold chkE at h2; cases o <;> exact Bool.noConfusion h2
              | _ => unfold chkE at h2; exact Bool.noConfusion h2
            | DictComp pk pv gs s vp =>
              cases e with
              | dc own g it t' kx vx =>
                obtain ⟨w1, w2⟩ := swaps_dc (l := p.line) C.sc C.kind h3
                have hcm : X.calm = true := ok.2.1
                have oke : okI (X.calm = true) (CalC X k) (GOk X) it ∧ okT (X.calm = true) (CalC X k) (GOk X) t' ∧ okE (X.calm = true) (CalC X k) (GOk X) kx ∧ okE (X.calm = true) (CalC X k) (GOk X) vx := ok.2.2
                unfold chkE at h2
                split at h2
                · rename_i heq
                  cases heq
                  obtain ⟨h, h7⟩ := and2 h2
                  obtain ⟨h, h6⟩ := and2 h
                  obtain ⟨h, h5⟩ := and2 h
                  obtain ⟨h, h4⟩ := and2 h
                  obtain ⟨h, q3⟩ := and2 h
                  obtain ⟨q1, q2⟩ := and2 h
                  exact ws_setDc hcm C.nd (by rw [C.nN]; exact of_decide_eq_true g1_) w2 w1 (sndI it X W c _ _ C.toCtxOk tk oke.1 q3) (blkOk_by (by rw [C.nN, C.sc]; exact q1)) (fun s H a cl fp => sndV g _ _ _ _ (C.toCtxOk.blk hcm s H a cl fp) hcm h4)
                    (fun s H a cl fp => sndIf t' _ W0 _ _ (C.toCtxOk.blk hcm s H a cl fp) takesF oke.2.1 h5) (fun s H a cl fp => sndE kx _ W0 _ _ (C.toCtxOk.blk hcm s H a cl fp) takesF oke.2.2.1 h6) (fun s H a cl fp => sndE vx _ W0 _ _ (C.toCtxOk.blk hcm s H a cl fp) takesF oke.2.2.2 h7) (notSet_of q2)
                · cases h2
              | op1 o a => unfold chkE at h2; cases o <;> exact Bool.noConfusion h2
              | op2 o a b => unfold chkE at h2; cases o <;> exact Bool.noConfusion h2
              | _ => unfold chkE at h2; exact Bool.noConfusion h2
            | _ => unfold swB at h3; exact Bool.noConfusion h3
          | _ => unfold chkG at h1; exact Bool.noConfusion h1
        · cases h3
    · cases h
  | .par i j a b, X, W, c, ps, C, tk, ok, h => by
    unfold chkS at h
    split at h
    · obtain ⟨h, h5⟩ := and2 h
      obtain ⟨h, h4⟩ := and2 h
      obtain ⟨h, h3⟩ := and2 h
      obtain ⟨h1, h2⟩ := and2 h
      exact ws_par C ok.1 (of_decide_eq_true h1) (of_decide_eq_true h2) h3 (sndE a X W c _ C.toCtxOk tk ok.2.1 h4) (sndE b X W c _ C.toCtxOk tk ok.2.2 h5)
    · cases h
  | .aug i op e, X, W, c, ps, C, tk, ok, h => by
    unfold chkS at h
    split at h
    · obtain ⟨h, h4⟩ := and2 h
      obtain ⟨h, h3⟩ := and2 h
      obtain ⟨h1, h2⟩ := and2 h
      obtain rfl := of_decide_eq_true h3
      exact ws_aug C (of_decide_eq_true h1) h2 (sndE e X W c _ C.toCtxOk tk ok h4)
    · cases h
  | .augx o i op e, X, W, c, ps, C, tk, ok, h => by
    unfold chkS at h
    split at h
    · obtain ⟨h, h5⟩ := and2 h
      obtain ⟨h, h4⟩ := and2 h
      obtain ⟨h, h3⟩ := and2 h
      obtain ⟨h1, h2⟩ := and2 h
      obtain rfl := of_decide_eq_true h1
      exact ws_augx (by have := C.toCtxOk.hu; omega) (sndE o X W c _ C.toCtxOk tk ok.1 h3) (sndE i X W c _ C.toCtxOk tk ok.2.1 h4) (sndE e X W c _ C.toCtxOk tk ok.2.2 h5) h2
    · cases h
  | .fors g it b, X, W, c, ps, C, tk, ok, h => by
    unfold chkS at h
    split at h
    · obtain ⟨h, h4⟩ := and2 h
      obtain ⟨h, h3⟩ := and2 h
      obtain ⟨h1, h2⟩ := and2 h
      by_cases hcm : X.calm = true
      · exact ws_for C.po hcm (sndI it X W c _ _ C.toCtxOk tk ok.2.2.1 h2) (sndG g X c _ C.toCtxOk ok.2.1 ⟨W, tk⟩ h3) (sndB b X W c _ C tk ok.2.2.2 h4) (notSet_of h1)
      cases it with
      | rng1 a =>
        unfold chkI at h2
        split at h2
        · obtain ⟨h2, q5⟩ := and2 h2
          obtain ⟨h2, q4⟩ := and2 h2
          obtain ⟨h2, q3⟩ := and2 h2
          obtain ⟨q1, q2⟩ := and2 h2
          obtain rfl := of_decide_eq_true q1
          exact ws_forH C.po (C.ch.resolve_left hcm) (wi_rng1H (C.gl q2) (C.bn _ (of_decide_eq_true q3)) (wa_cons (sndE a X W c _ C.toCtxOk tk ok.2.2.1 q5) wa_nil (star_of q4)) (star_of q4)) (sndG g X c _ C.toCtxOk ok.2.1 ⟨W, tk⟩ h3) (sndB b X W c _ C tk ok.2.2.2 h4) (notSet_of h1)
        · cases h2
      | _ => exact absurd ok.1 hcm
    · cases h
  | .whiles t b, X, W, c, ps, C, tk, ok, h => by
    unfold chkS at h
    split at h
    · obtain ⟨h1, h2⟩ := and2 h
      exact ws_while C.po (sndT t X W c _ C.toCtxOk tk ok.1 h1) (sndB b X W c _ C tk ok.2 h2)
    · cases h
  | .raise x fl as, X, W, c, ps, C, tk, ok, h => by
    unfold chkS at h
    split at h
    · rename_i y _ es _ _
      obtain ⟨h, h5⟩ := and2 h
      obtain ⟨h, h4⟩ := and2 h
      obtain ⟨h, h3⟩ := and2 h
      obtain ⟨h1, h2⟩ := and2 h
      obtain rfl := of_decide_eq_true h1
      cases es with
      | nil => cases h4
      | cons e es =>
        have hs := chkA_star h5
        rw [List.all_cons, Bool.and_eq_true] at hs
        exact ws_raise (excAt_of (ok.2.1.calm ok.1)) ok.1 tk (C.room ok.1) (C.gl h2) (okNm_of h3).1 (sndA as X W c _ C.toCtxOk tk ok.2.2 h5) (star_of hs.1) (backs_of hs.2)
    · cases h
  | .tryE b x fl i tup its, X, W, c, ps, C, tk, ok, h => by
    unfold chkS at h
    split at h
    · rename_i body y _ n e _ _ _
      obtain ⟨h, h8⟩ := and2 h
      obtain ⟨h, h7⟩ := and2 h
      obtain ⟨h, h6⟩ := and2 h
      obtain ⟨h, h5⟩ := and2 h
      obtain ⟨h, h4⟩ := and2 h
      obtain ⟨h, h3⟩ := and2 h
      obtain ⟨h1, h2⟩ := and2 h
      obtain rfl := of_decide_eq_true h1
      have hk : X.env.scope.names.lookup n = some .local := by rw [C.sc]; exact of_decide_eq_true h5
      refine ws_try (lo := fun j y => decide (c.N[j]? = some y) && decide (c.sc.names.lookup y = some .local) && okNm y) (bt := fun y => glB c.sc y && decide (y ∈ c.bn)) (fun j y hl => ?_) (fun y hl => ?_) (excAt_of (ok.2.1.calm ok.1)) C.stk C.frm C.nd (by rw [C.nN]; exact of_decide_eq_true h4) hk (C.gl h2) (okNm_of h3).1 (okNm_of h6).1 (okNm_of h6).2 (.inl hk) tk
        (fun W' pn xe tk' po => sndB b (X.tr pn xe) W' c body ⟨⟨C.nN, C.nd, C.sc, .inl ok.1, C.hu, C.room, C.roomH, C.st, C.bn⟩, C.kind, po, C.stk, C.frm⟩ tk' ok.2.2 h8) h7
      · obtain ⟨hl, l3⟩ := and2 hl
        obtain ⟨l1, l2⟩ := and2 hl
        exact ⟨by rw [C.nN]; exact of_decide_eq_true l1, .inl (by rw [C.sc]; exact of_decide_eq_true l2), (okNm_of l3).1, (okNm_of l3).2⟩
      · obtain ⟨l1, l2⟩ := and2 hl
        exact ⟨C.gl l1, C.bn _ (of_decide_eq_true l2)⟩
    · cases h
  | .tryC b x fl i js, X, W, c, ps, C, tk, ok, h => by
    unfold chkS at h
    split at h
    · rename_i body y _ n e _ _ _
      obtain ⟨h, h8⟩ := and2 h
      obtain ⟨h, h7⟩ := and2 h
      obtain ⟨h, h6⟩ := and2 h
      obtain ⟨h, h5⟩ := and2 h
      obtain ⟨h, h4⟩ := and2 h
      obtain ⟨h, h3⟩ := and2 h
      obtain ⟨h1, h2⟩ := and2 h
      obtain rfl := of_decide_eq_true h1
      have hk : X.env.scope.names.lookup n = some .local := by rw [C.sc]; exact of_decide_eq_true h5
      have hn : X.N[i]? = some n := by rw [C.nN]; exact of_decide_eq_true h4
      exact ws_tryC (sw := wSJs i js) (excAt_of (ok.2.1.calm ok.1)) C.stk C.frm C.nd hn hk (C.gl h2) (okNm_of h3).1 tk
        (fun W' pn xe tk' po => sndB b (X.tr pn xe) W' c body ⟨⟨C.nN, C.nd, C.sc, .inl ok.1, C.hu, C.room, C.roomH, C.st, C.bn⟩, C.kind, po, C.stk, C.frm⟩ tk' ok.2.2.1 h8)
        (fun A fI T a oe d0 pn fs hz hf hot => sndSJs (A := A) ⟨ctx_suite C.toCtxOk hot, hot, fun f p pos hfl => we_xf T hz.zc hf hn (.inl hk) (okNm_of h6).1 (okNm_of h6).2 hfl rfl rfl⟩ js e ok.2.2.2 h7)
    · cases h
  | .tryF b x fl i t j e, X, W, c, ps, C, tk, ok, h => by
    unfold chkS at h
    split at h
    · rename_i body y _ n pt pj _ _ r _ _ _ orelse _
      obtain ⟨h, h12⟩ := and2 h
      obtain ⟨h, h11⟩ := and2 h
      obtain ⟨h, h10⟩ := and2 h
      obtain ⟨h, h9⟩ := and2 h
      obtain ⟨h, h8⟩ := and2 h
      obtain ⟨h, h7⟩ := and2 h
      obtain ⟨h, h6⟩ := and2 h
      obtain ⟨h, h5⟩ := and2 h
      obtain ⟨h, h4⟩ := and2 h
      obtain ⟨h, h3⟩ := and2 h
      obtain ⟨h1, h2⟩ := and2 h
      obtain rfl := of_decide_eq_true h1
      have hk : X.env.scope.names.lookup n = some .local := by rw [C.sc]; exact of_decide_eq_true h5
      have hn : X.N[i]? = some n := by rw [C.nN]; exact of_decide_eq_true h4
      exact ws_tryF (sw := fun xa => wThen (wIfS (wTor (wpT t) (wTnot fun E τ M Q => wSJ i j xa E τ M fun x M1 => truP x M1 Q)) (wThen (wRet (wpE (.bl false))) wSkip) wSkip) wSkip) (excAt_of (ok.2.1.calm ok.1)) C.stk C.frm C.nd hn hk (C.gl h2) (okNm_of h3).1 tk
        (sndB e X W c orelse C tk ok.2.2.2.2.2 h12)
        (fun W' pn xe tk' po => sndB b (X.tr pn xe) W' c body ⟨⟨C.nN, C.nd, C.sc, .inl ok.1, C.hu, C.room, C.roomH, C.st, C.bn⟩, C.kind, po, C.stk, C.frm⟩ tk' ok.2.2.1 h11)
        (fun A fI T a oe d0 pn fs hz hf hot => by
          have S : SuOk X c k i n fl a A d0 oe pn fs := ⟨ctx_suite C.toCtxOk hot, hot, fun f p pos hfl => we_xf T hz.zc hf hn (.inl hk) (okNm_of h6).1 (okNm_of h6).2 hfl rfl rfl⟩
          exact wss_cons (ws_if (WW.wt (ww_or (sndT t _ _ c _ S.cx takesF ok.2.2.2.1 h7) (ww_or1 (wt_not (wt_val (sndSJ S j _ ok.2.2.2.2.1 h9) (plainT_of h8)))))) (wss_cons (ws_ret (sndE (.bl false) _ _ c _ S.cx takesF trivial h10)) wss_nil) wss_nil) wss_nil)
    · cases h
  | .never, X, W, c, ps, C, tk, ok, h => ws_never
theorem sndB {k : Nat} : ∀ (s : ZS) (X : Cx) (W : L2.WX) (c : SC) (ps : List Stmt), CtxS X c k → L2N.Takes X W → okS (X.calm = true) (CalC X k) (CalH X k) (GOk X) s → chkB c s ps = true → WSs X W ps (wpS s)
  | .nil, X, W, c, ps, C, tk, ok, h => by
    unfold chkB at h
    split at h
    · exact wss_nil
    · cases h
  | .seq s r, X, W, c, ps, C, tk, ok, h => by
    unfold chkB at h
    split at h
    · obtain ⟨h1, h2⟩ := and2 h
      exact wss_cons (sndS s X W c _ C tk ok.1 h1) (sndB r X W c _ C tk ok.2 h2)
    · cases h
  | .pass, X, W, c, ps, C, tk, ok, h => by unfold chkB at h; cases h
  | .brk, X, W, c, ps, C, tk, ok, h => by unfold chkB at h; cases h
  | .cont, X, W, c, ps, C, tk, ok, h => by unfold chkB at h; cases h
  | .expr e, X, W, c, ps, C, tk, ok, h => by unfold chkB at h; cases h
  | .ret e, X, W, c, ps, C, tk, ok, h => by unfold chkB at h; cases h
  | .retn, X, W, c, ps, C, tk, ok, h => by unfold chkB at h; cases h
  | .ifs t a b, X, W, c, ps, C, tk, ok, h => by unfold chkB at h; cases h
  | .asg g e, X, W, c, ps, C, tk, ok, h => by unfold chkB at h; cases h
  | .par i j a b, X, W, c, ps, C, tk, ok, h => by unfold chkB at h; cases h
  | .aug i op e, X, W, c, ps, C, tk, ok, h => by unfold chkB at h; cases h
  | .augx o i op e, X, W, c, ps, C, tk, ok, h => by unfold chkB at h; cases h
  | .fors g it b, X, W, c, ps, C, tk, ok, h => by unfold chkB at h; cases h
  | .whiles t b, X, W, c, ps, C, tk, ok, h => by unfold chkB at h; cases h
  | .raise x fl as, X, W, c, ps, C, tk, ok, h => by unfold chkB at h; cases h
  | .tryE b x fl i tup its, X, W, c, ps, C, tk, ok, h => by unfold chkB at h; cases h
  | .tryC b x fl i js, X, W, c, ps, C, tk, ok, h => by unfold chkB at h; cases h
  | .tryF b x fl i t j e, X, W, c, ps, C, tk, ok, h => by unfold chkB at h; cases h
  | .never, X, W, c, ps, C, tk, ok, h => by unfold chkB at h; cases h
end
/-! ### a def of the text -/
def defSC (N : List Str) (sc : Scope) (bn : List Str) : SC := ⟨N, sc, fun x => (match sc.names.lookup x with
  | some .local => true
  | some .cell => true
  | _ => false), bn⟩
/-- what is looked at in the text: the body stands for s -/
structure DefOk (st : Stmt) (N ps bn : List Str) (s : ZS) : Prop where
  sc : FnScope N ps (defScope st)
  chk : chkB (defSC N (defScope st) bn) s (defBody st) = true
def scB (N ps : List Str) (sc : Scope) : Bool := (match sc.kind with | .function => true | _ => false) && !sc.isCoroutine && !sc.isGenerator && decide N.Nodup && decide (N.take ps.length = ps) &&
  (ps.all fun x => match sc.names.lookup x with | some .local => true | some .cell => true | _ => false) && (sc.names.all fun y => match y.2 with | .free => false | _ => true)
theorem scB_of {N ps : List Str} {sc : Scope} (h : scB N ps sc = true) : FnScope N ps sc := by
  unfold scB at h
  obtain ⟨h, h7⟩ := and2 h
  obtain ⟨h, h6⟩ := and2 h
  obtain ⟨h, h5⟩ := and2 h
  obtain ⟨h, h4⟩ := and2 h
  obtain ⟨h, h3⟩ := and2 h
  obtain ⟨h1, h2⟩ := and2 h
  refine ⟨?_, notB h2, notB h3, of_decide_eq_true h4, of_decide_eq_true h5, fun x hx => ?_, fun y hy z => ?_⟩
  · split at h1
    · assumption
    · cases h1
  · rw [List.all_eq_true] at h6
    have := h6 x hx
    split at this
    · rename_i e; exact .inl e
    · rename_i e; exact .inr e
    · cases this
  · rw [List.all_eq_true] at h7
    have := h7 y hy
    rw [z] at this
    cases this
/-- all that is looked at, in one -/
def defB (st : Stmt) (N ps bn : List Str) (s : ZS) : Bool := scB N ps (defScope st) && chkB (defSC N (defScope st) bn) s (defBody st)
theorem defB_of {st : Stmt} {N ps bn : List Str} {s : ZS} (h : defB st N ps bn s = true) : DefOk st N ps bn s := by
  obtain ⟨h1, h2⟩ := and2 h
  exact ⟨scB_of h1, h2⟩
abbrev GlOk (K : PySem.W.Frag) (mg : Gm) (x : Str) (v : PV) : Prop := ∃ u w, mg x = some u ∧ RelV w u ∧ ∀ H, R K H v w
theorem def_st {st : Stmt} {y : Str} (hy : (match (defScope st).names.lookup y with
      | some .local => true
      | some .cell => true
      | _ => false) = true) : Loc (defScope st) y := by
  split at hy
  · rename_i e; exact .inl e
  · rename_i e; exact .inr e
  · cases hy
theorem def_ok {P : Program} {w : World} {K : PySem.W.Frag} {mg : Gm} {base : Heap} {x qual : Str} {st : Stmt} {f : Addr} {fd : FuncData} {N ps bn : List Str} {k : Nat} {ms : ZSp} {s : ZS}
    (F : L2.Fun K x qual st f fd) (D : DefOk st N ps bn s) (hbn : ∀ y ∈ bn, mg y = none) (hok : okS (true = true) (fun x n ks sp => CalOk true P w K mg base k x n ks sp) (fun x n ks sp => CalOk false P w K mg base k x n ks sp) (fun x v => GlOk K mg x v) s)
    (hm : MeetsO N.length ps.length (wpS s) ms) : FnOk P w K mg base (L2N.CX P w) (k + 1) f fd ps (toSp K mg ms) := by
  refine fn_ok F D.sc hm fun cdv A outer s0 H E hr => ?_
  have tk : L2N.Takes (cxOf (L2N.CX P w) P w K mg base N qual (defScope st) f cdv A outer s0 H E) (fun cls d _ H => E cls d H) := L2N.takes_of rfl rfl rfl rfl
  refine sndB s _ _ (defSC N (defScope st) bn) _ ⟨⟨rfl, D.sc.nd, rfl, .inl rfl, ?_, fun _ => hr, L2H.roomH_of hr, fun y hy => ⟨def_st hy, .inl rfl⟩, hbn⟩, D.sc.kind, passes_of rfl, rfl, rfl⟩ tk hok D.chk
  have h65 := hr.un
  show (A.deeper (envOfC qual (defScope st) s0.heap.objs.size f cdv)).units + 65 < cLine
  omega
/-- the same def, called while an exception is handled -/
theorem def_okH {P : Program} {w : World} {K : PySem.W.Frag} {mg : Gm} {base : Heap} {x qual : Str} {st : Stmt} {f : Addr} {fd : FuncData} {N ps bn : List Str} {k : Nat} {ms : ZSp} {s : ZS}
    (F : L2.Fun K x qual st f fd) (D : DefOk st N ps bn s) (hbn : ∀ y ∈ bn, mg y = none) (hok : okS (false = true) (fun x n ks sp => CalOk false P w K mg base k x n ks sp) (fun x n ks sp => CalOk false P w K mg base k x n ks sp) (fun x v => GlOk K mg x v) s)
    (hm : MeetsO N.length ps.length (wpS s) ms) : L2H.FnH P w K mg base (L2N.CX P w) (k + 1) f fd ps (toSp K mg ms) := by
  refine fn_okH F D.sc hm fun cdv A outer s0 H E p hp hr => ?_
  have tk : L2N.Takes (L2H.cxH (L2N.CX P w) P w K mg base N qual (defScope st) f cdv A outer s0 H E p) (fun cls d _ H => E cls d H) := L2N.takes_of rfl rfl rfl rfl
  refine sndB s _ _ (defSC N (defScope st) bn) _ ⟨⟨rfl, D.sc.nd, rfl, .inr ⟨p, hp, List.mem_singleton.mpr rfl⟩, ?_, fun z => Bool.noConfusion (show false = true from z), hr, fun y hy => ⟨def_st hy, .inl rfl⟩, hbn⟩, D.sc.kind, passes_of rfl, rfl, rfl⟩ tk hok D.chk
  have h65 := hr.un
  show (A.deeper (envOfC qual (defScope st) s0.heap.objs.size f cdv)).units + 65 < cLine
  omega
end Zd

set_option Elab.async false
set_option linter.all false
set_option maxRecDepth 100000
set_option maxHeartbeats 8000000
/-! Zd 13: the steps, as equations (for simp only, from the outside in). -/
namespace Zd
open PySem
section
variable {E : ZX} {τ : Tau} {M : Mp} {Q : ZQ} {J : ZJ} {nx : Tau → Mp → Prop} {a b d e : ZE} {as : ZA} {t : ZT} {op op' : PySem.Operator} {cp cp' : PySem.CmpOp} {i j : Nat} {x : Str} {u v w : Option PV} {y z : PV} {xs ys : List PV}
theorem p_get0 : getP (some y :: τ) 0 M Q = Q y M := rfl
theorem p_get1 : getP (u :: some y :: τ) 1 M Q = Q y M := rfl
theorem p_getS {n : Nat} : getP (u :: τ) (n + 1) M Q = getP τ n M Q := rfl
theorem e_var : wpE (.var i) E τ M Q = getP τ i M Q := rfl
theorem e_int {k : Int} : wpE (.int k) E τ M Q = Q (.int k) M := rfl
theorem e_bl {k : Bool} : wpE (.bl k) E τ M Q = Q (.bl k) M := rfl
theorem e_non : wpE .non E τ M Q = Q .non M := rfl
theorem e_str : wpE (.str x) E τ M Q = Q (.str x) M := rfl
theorem e_gl : wpE (.gl x y) E τ M Q = Q y M := rfl
theorem e_ty {n : String} : wpE (.ty n) E τ M Q = Q (.ty n) M := rfl
theorem e_bin : wpE (.bin op a b) E τ M Q = wpE a E τ M fun x M1 => wpE b E τ M1 fun y M2 => bin2 op x y M2 Q := rfl
theorem e_un {o : PySem.UnaryOp} : wpE (.un o a) E τ M Q = wpE a E τ M fun x M1 => unP o x M1 Q := rfl
theorem e_cmp : wpE (.cmp cp a b) E τ M Q = wpE a E τ M fun x M1 => wpE b E τ M1 fun y M2 => cmpP cp x y M2 Q := rfl
theorem e_chn : wpE (.chn cp cp' a b d) E τ M Q = wpE a E τ M fun x M1 => wpE b E τ M1 fun y M2 => cmpP cp x y M2 fun z M3 => isBl z M3 fun k M4 => if k = true then wpE d E τ M4 (fun w' M5 => cmpP cp' y w' M5 Q) else Q (.bl false) M4 := rfl
theorem e_vand {k : ZVK} : wpE (.vand k) E τ M Q = wpVA k E τ M Q := rfl
theorem e_vor {k : ZVK} : wpE (.vor k) E τ M Q = wpVO k E τ M Q := rfl
theorem e_vnot : wpE (.vnot a) E τ M Q = wpE a E τ M fun x M1 => truP x M1 fun k M2 => Q (.bl (!k)) M2 := rfl
theorem e_ife : wpE (.ife t a b) E τ M Q = wpT t E τ M fun c M1 => if c = true then wpE a E τ M1 Q else wpE b E τ M1 Q := rfl
theorem e_tup : wpE (.tup as) E τ M Q = wpA as E τ M fun xs M1 => xs.length ≤ sizeLine ∧ Q (.tup xs) M1 := rfl
theorem e_lst : wpE (.lst as) E τ M Q = wpA as E τ M fun xs M1 => newL M1 xs Q := rfl
theorem e_ix : wpE (.ix a b) E τ M Q = wpE a E τ M fun x M1 => wpE b E τ M1 fun y M2 => ixP x y M2 Q := rfl
theorem e_sl {lo hi : ZO} : wpE (.sl a lo hi) E τ M Q = wpE a E τ M fun x M1 => wpO lo E τ M1 fun l M2 => wpO hi E τ M2 fun h M3 => slP x l h M3 Q := rfl
theorem e_call {n : Nat} {sp : ZSp} : wpE (.call x n sp as) E τ M Q = wpA as E τ M fun xs M1 => sp xs M1 Q E := rfl
theorem e_blt {k : Blt} : wpE (.blt k as) E τ M Q = wpA as E τ M fun xs M1 => bltP k xs M1 Q := rfl
theorem e_mth {m : Mth} : wpE (.mth m a as) E τ M Q = wpE a E τ M fun x M1 => mthO m x M1 ∧ wpA as E τ M1 fun xs M2 => mthP m x xs M2 Q := rfl
theorem e_lc2 {own : List (Str × Nat)} {g g1 : ZG} {it it1 : ZI} {vs1 : List Nat} {t1 : ZT} : wpE (.lc2 own g it t vs1 g1 it1 t1 e) E τ M Q = wpI it E τ M fun sq M1 => lc2P sq.ok (fun x acc M k => wpG g x (wipeT τ (own.map (·.2))) M fun τ2 M2 => wpT t E0x τ2 M2 fun b M3 => if b = true then wpI it1 E0x τ2 M3 fun sq1 M4 => lcP sq1.ok (fun x M k' => wpG g1 x (wipeT τ2 vs1) M fun τ3 M5 => wpT t1 E0x τ3 M5 fun b M6 => if b = true then wpE e E0x τ3 M6 fun y M7 => k' (some y) M7 else k' none M6) k sq1.its acc M4 else k acc M3) (allocL Q) sq.its [] M1 := rfl
theorem e_dc {own : List (Str × Nat)} {g : ZG} {it : ZI} : wpE (.dc own g it t a e) E τ M Q = wpI it E τ M fun sq M1 => dcP sq.ok (fun x M k => wpG g x (wipeT τ (own.map (·.2))) M fun τ2 M2 => wpT t E0x τ2 M2 fun b M3 => if b = true then wpE a E0x τ2 M3 fun y M4 => wpE e E0x τ2 M4 fun z M5 => k (some (y, z)) M5 else k none M3) (allocD Q) sq.its [] M1 := rfl
theorem e_callK {ks : List Str} {sp : ZSp} : wpE (.callK x ks sp as) E τ M Q = wpA as E τ M fun xs M1 => sp xs M1 Q E := rfl
theorem e_dnew : wpE .dnew E τ M Q = allocD Q [] M := rfl
theorem e_fmt : wpE (.fmt a) E τ M Q = wpE a E τ M fun x M1 => fmtP x M1 Q := rfl
theorem e_js : wpE (.js as) E τ M Q = wpJ as Str.empty E τ M fun out M1 => Q (.str out) M1 := rfl
theorem e_op1 {o : Op1} : wpE (.op1 o a) E τ M Q = wpE a E τ M fun x M1 => op1P o x M1 Q := rfl
theorem e_op2 {o : Op2} : wpE (.op2 o a b) E τ M Q = wpE a E τ M fun x M1 => wpE b E τ M1 fun y M2 => op2P o x y M2 Q := rfl
theorem i_it1 {o : It1} {Q : ZSeq → Mp → Prop} : wpI (.it1 o a) E τ M Q = wpE a E τ M fun x M1 => it1P o x M1 Q := rfl
theorem i_it2 {o : It2} {Q : ZSeq → Mp → Prop} : wpI (.it2 o a b) E τ M Q = wpE a E τ M fun x M1 => wpE b E τ M1 fun y M2 => it2P o x y M2 Q := rfl
theorem i_it3 {o : It3} {c : ZE} {Q : ZSeq → Mp → Prop} : wpI (.it3 o a b c) E τ M Q = wpE a E τ M fun x M1 => wpE b E τ M1 fun y M2 => wpE c E τ M2 fun z M3 => it3P o x y z M3 Q := rfl
theorem j_nil {acc : Str} {Q : Str → Mp → Prop} : wpJ .nil acc E τ M Q = Q acc M := rfl
theorem j_cons {acc : Str} {Q : Str → Mp → Prop} : wpJ (.cons a as) acc E τ M Q = wpE a E τ M fun x M1 => strO x fun y => (acc ++ y).length ≤ sizeLine ∧ wpJ as (acc ++ y) E τ M1 Q := rfl
theorem fmt_str {M : Mp} {Q : ZQ} : fmtP (.str x) M Q = (x.length ≤ sizeLine ∧ Q (.str x) M) := rfl
theorem fmt_int {M : Mp} {Q : ZQ} {k : Int} : fmtP (.int k) M Q = (k.natAbs.log2 < 1920 ∧ Q (.str (toString k)) M) := rfl
theorem strO_str {Q : Str → Prop} : strO (.str x) Q = Q x := rfl
theorem e_dget : wpE (.dget a b e) E τ M Q = wpE a E τ M fun o M1 => (dicOf o M1).isSome = true ∧ wpE b E τ M1 fun y M2 => wpE e E τ M2 fun z M3 => dgetP o y M3 fun r => Q (r.getD z) M3 := rfl
theorem e_lc {own : List (Str × Nat)} {g : ZG} {it : ZI} : wpE (.lc own g it t e) E τ M Q = wpI it E τ M fun sq M1 => lcP sq.ok (fun x M k => wpG g x (wipeT τ (own.map (·.2))) M fun τ2 M2 => wpT t E0x τ2 M2 fun b M3 => if b = true then wpE e E0x τ2 M3 fun y M4 => k (some y) M4 else k none M3) (allocL Q) sq.its [] M1 := rfl
theorem e_mnd {mx : Bool} : wpE (.mnd mx a b) E τ M Q = wpE a E τ M fun x M1 => wpE b E τ M1 fun y M2 => mndP mx x y M2 Q := rfl
theorem e_dget1 : wpE (.dget1 a b) E τ M Q = wpE a E τ M fun o M1 => (dicOf o M1).isSome = true ∧ wpE b E τ M1 fun y M2 => dgetP o y M2 fun r => Q (r.getD .non) M2 := rfl
theorem e_lvals : wpE (.lvals a) E τ M Q = wpE a E τ M fun o M1 => lvalsP o M1 Q := rfl
theorem a_nil {Q : List PV → Mp → Prop} : wpA .nil E τ M Q = Q [] M := rfl
theorem a_cons {Q : List PV → Mp → Prop} : wpA (.cons e as) E τ M Q = wpE e E τ M fun x M1 => wpA as E τ M1 fun xs M2 => Q (x :: xs) M2 := rfl
theorem o_none {Q : Option Int → Mp → Prop} : wpO .none E τ M Q = Q none M := rfl
theorem o_some {Q : Option Int → Mp → Prop} : wpO (.some e) E τ M Q = wpE e E τ M fun x M1 => intO x M1 Q := rfl
theorem o_int {k : Int} {Q : Option Int → Mp → Prop} : intO (.int k) M Q = Q (some k) M := rfl
theorem t_tt {Q : Bool → Mp → Prop} : wpT .tt E τ M Q = Q true M := rfl
theorem t_tv {Q : Bool → Mp → Prop} : wpT (.tv e) E τ M Q = wpE e E τ M fun x M1 => truP x M1 Q := rfl
theorem t_cmp {Q : Bool → Mp → Prop} : wpT (.cmp cp a b) E τ M Q = wpE a E τ M fun x M1 => wpE b E τ M1 fun y M2 => cmpP cp x y M2 fun z M3 => isBl z M3 Q := rfl
theorem t_chn {Q : Bool → Mp → Prop} : wpT (.chn cp cp' a b d) E τ M Q = wpE a E τ M fun x M1 => wpE b E τ M1 fun y M2 => cmpP cp x y M2 fun z M3 => isBl z M3 fun k M4 => if k = true then wpE d E τ M4 (fun w' M5 => cmpP cp' y w' M5 fun z M6 => isBl z M6 Q) else Q false M4 := rfl
theorem t_and {k : ZTK} {Q : Bool → Mp → Prop} : wpT (.and k) E τ M Q = wpTA k E τ M Q := rfl
theorem t_or {k : ZTK} {Q : Bool → Mp → Prop} : wpT (.or k) E τ M Q = wpTO k E τ M Q := rfl
theorem t_not {Q : Bool → Mp → Prop} : wpT (.not t) E τ M Q = wpT t E τ M fun c M1 => Q (!c) M1 := rfl
theorem ta_one {Q : Bool → Mp → Prop} : wpTA (.one t) E τ M Q = wpT t E τ M Q := rfl
theorem ta_cons {k : ZTK} {Q : Bool → Mp → Prop} : wpTA (.cons t k) E τ M Q = wpT t E τ M fun c M1 => if c = true then wpTA k E τ M1 Q else Q false M1 := rfl
theorem to_one {Q : Bool → Mp → Prop} : wpTO (.one t) E τ M Q = wpT t E τ M Q := rfl
theorem to_cons {k : ZTK} {Q : Bool → Mp → Prop} : wpTO (.cons t k) E τ M Q = wpT t E τ M fun c M1 => if c = true then Q true M1 else wpTO k E τ M1 Q := rfl
theorem va_one : wpVA (.one e) E τ M Q = wpE e E τ M Q := rfl
theorem va_cons {k : ZVK} : wpVA (.cons e k) E τ M Q = wpE e E τ M fun x M1 => truP x M1 fun c M2 => if c = true then wpVA k E τ M2 Q else Q x M2 := rfl
theorem vo_one : wpVO (.one e) E τ M Q = wpE e E τ M Q := rfl
theorem vo_cons {k : ZVK} : wpVO (.cons e k) E τ M Q = wpE e E τ M fun x M1 => truP x M1 fun c M2 => if c = true then Q x M2 else wpVO k E τ M2 Q := rfl
theorem i_seq {Q : ZSeq → Mp → Prop} : wpI (.seq e) E τ M Q = wpE e E τ M fun x M1 => seqP x M1 Q := rfl
theorem i_rng1 {Q : ZSeq → Mp → Prop} : wpI (.rng1 a) E τ M Q = wpE a E τ M fun x M1 => rng1P [x] M1 Q := rfl
theorem i_rng2 {Q : ZSeq → Mp → Prop} : wpI (.rng2 a b) E τ M Q = wpE a E τ M fun x M1 => wpE b E τ M1 fun y M2 => rng2P [x, y] M2 Q := rfl
theorem rng1_int {k : Int} {Q : ZSeq → Mp → Prop} : rng1P [.int k] M Q = (smallI k ∧ Q ⟨rngL 0 k.toNat, fun _ => True⟩ M) := rfl
theorem i_enum {Q : ZSeq → Mp → Prop} : wpI (.enum a) E τ M Q = wpE a E τ M fun x M1 => enumP x M1 Q := rfl
theorem i_zip {Q : ZSeq → Mp → Prop} : wpI (.zip a b) E τ M Q = wpE a E τ M fun x M1 => wpE b E τ M1 fun y M2 => zipP x y M2 Q := rfl
theorem enum_t {Q : ZSeq → Mp → Prop} : enumP (.tup xs) M Q = Q ⟨enumL 0 xs, fun _ => True⟩ M := rfl
theorem src_l {p : Addr} (h : lget M p = some xs) : srcOf (.ref p) M = some ⟨xs, fun M => lget M p = some xs⟩ := by
  dsimp only [srcOf]; rw [h]
theorem enum_l {p : Addr} {Q : ZSeq → Mp → Prop} (h : lget M p = some xs) : enumP (.ref p) M Q = Q ⟨enumL 0 xs, fun M => lget M p = some xs⟩ M := by
  unfold enumP; rw [src_l h]
theorem zip_tt {Q : ZSeq → Mp → Prop} : zipP (.tup xs) (.tup ys) M Q = Q ⟨zipL xs ys, fun _ => True ∧ True⟩ M := rfl
theorem zip_tl {p : Addr} {Q : ZSeq → Mp → Prop} (h : lget M p = some ys) : zipP (.tup xs) (.ref p) M Q = Q ⟨zipL xs ys, fun M => True ∧ lget M p = some ys⟩ M := by
  unfold zipP; rw [src_l h]; rfl
theorem zip_lt {p : Addr} {Q : ZSeq → Mp → Prop} (h : lget M p = some xs) : zipP (.ref p) (.tup ys) M Q = Q ⟨zipL xs ys, fun M => lget M p = some xs ∧ True⟩ M := by
  unfold zipP; rw [src_l h]; rfl
theorem zip_ll {p q : Addr} {Q : ZSeq → Mp → Prop} (h : lget M p = some xs) (h' : lget M q = some ys) : zipP (.ref p) (.ref q) M Q = Q ⟨zipL xs ys, fun M => lget M p = some xs ∧ lget M q = some ys⟩ M := by
  unfold zipP; rw [src_l h, src_l h']
theorem rng2_int {k l : Int} {Q : ZSeq → Mp → Prop} : rng2P [.int k, .int l] M Q = ((smallI k ∧ smallI l) ∧ Q ⟨rngL k (l - k).toNat, fun _ => True⟩ M) := rfl
theorem seq_tupE {Q : ZSeq → Mp → Prop} : seqP (.tup xs) M Q = Q ⟨xs, fun _ => True⟩ M := rfl
theorem seq_refE {p : Addr} {Q : ZSeq → Mp → Prop} (h : lget M p = some xs) : seqP (.ref p) M Q = Q ⟨xs, fun M => lget M p = some xs⟩ M := by show (match lget M p with | some xs => _ | none => False) = _; rw [h]
theorem seq_strE {Q : ZSeq → Mp → Prop} : seqP (.str x) M Q = Q ⟨x.cps.toList.map fun c => .str ⟨#[c]⟩, fun _ => True⟩ M := rfl
theorem g_nm {Q : Tau → Mp → Prop} : wpG (.nm i) y τ M Q = Q (τ.set i (some y)) M := rfl
theorem g_tup {n : Nat} {gs : ZGs} {Q : Tau → Mp → Prop} : wpG (.tup n gs) (.tup xs) τ M Q = (xs.length = n ∧ wpGs gs xs τ M Q) := rfl
theorem g_ix {Q : Tau → Mp → Prop} : wpG (.ix a b) y τ M Q = wpE a E0x τ M fun o M1 => wpE b E0x τ M1 fun i M2 => setP o i y M2 fun M3 => Q τ M3 := rfl
theorem gs_nil {Q : Tau → Mp → Prop} : wpGs .nil [] τ M Q = Q τ M := by show ([] = [] ∧ _) = _; simp
theorem gs_cons {g : ZG} {gs : ZGs} {Q : Tau → Mp → Prop} : wpGs (.cons g gs) (y :: xs) τ M Q = wpG g y τ M fun τ' M' => wpGs gs xs τ' M' Q := rfl
theorem s_nil : wpS .nil J nx τ M = nx τ M := rfl
theorem s_seq {s r : ZS} : wpS (.seq s r) J nx τ M = wpS s J (fun τ' M' => wpS r J nx τ' M') τ M := rfl
theorem s_pass : wpS .pass J nx τ M = nx τ M := rfl
theorem s_brk : wpS .brk J nx τ M = J.bk τ M := rfl
theorem s_cont : wpS .cont J nx τ M = J.ct τ M := rfl
theorem s_expr : wpS (.expr e) J nx τ M = wpE e (J.ex τ) τ M fun _ M1 => nx τ M1 := rfl
theorem s_ret : wpS (.ret e) J nx τ M = wpE e (J.ex τ) τ M J.rt := rfl
theorem s_retn : wpS .retn J nx τ M = J.rt .non M := rfl
theorem s_ifs {s r : ZS} : wpS (.ifs t s r) J nx τ M = wpT t (J.ex τ) τ M fun c M1 => if c = true then wpS s J nx τ M1 else wpS r J nx τ M1 := rfl
theorem s_asg {g : ZG} : wpS (.asg g e) J nx τ M = wpE e (J.ex τ) τ M fun x M1 => wpG g x τ M1 nx := rfl
theorem s_par : wpS (.par i j a b) J nx τ M = wpE a (J.ex τ) τ M fun x M1 => wpE b (J.ex τ) τ M1 fun y M2 => nx ((τ.set i (some x)).set j (some y)) M2 := rfl
theorem s_aug : wpS (.aug i op e) J nx τ M = getP τ i M fun x _ => wpE e (J.ex τ) τ M fun y M1 => augP op x y M1 fun z M2 => nx (τ.set i (some z)) M2 := rfl
theorem s_augx : wpS (.augx a b op e) J nx τ M = wpE a (J.ex τ) τ M fun x M1 => wpE b (J.ex τ) τ M1 fun y M2 => itemP x y M2 fun v M3 => wpE e (J.ex τ) τ M3 fun z M4 => augP op v z M4 fun r M5 => setP x y r M5 fun M6 => nx τ M6 := rfl
theorem s_raise {x : Str} {fl : List Str} : wpS (.raise x fl as) J nx τ M = wpA as (J.ex τ) τ M fun xs M1 => (xs.length = fl.length ∧ xs.length ≤ 500) ∧ ∃ M2, Sg M2 M1 ∧ J.ex τ x (fl.zip xs) M2 := rfl
theorem s_try {s : ZS} {x : Str} {fl : List Str} {b : Bool} {its : List SI} : wpS (.tryE s x fl i b its) J nx τ M = wpS s { J with ex := fun τ' c' fs M' => c' = x ∧ i < τ'.length ∧ ∃ x, suVal τ' fs b its = some x ∧ J.rt x M' } nx τ M := rfl
theorem s_tryF {s e : ZS} {x : Str} {fl : List Str} {i : Nat} {t : ZT} {j : SJ} : wpS (.tryF s x fl i t j e) J nx τ M = wpS s { J with ex := fun τ' c' fs M' => c' = x ∧ i < τ'.length ∧ fs ≠ [] ∧ ∀ a d φ, M' d = none → wpT t (fun _ _ _ => False) (τ'.set i (some (.ref a))) (mu M' d (.abs φ [d])) fun c M1 => if c = true then (if true = true then J.rt (.bl false) M1 else nx ((τ'.set i (some (.ref a))).set i none) M1) else wSJ i j ⟨a, d, φ, fs⟩ (fun _ _ _ => False) (τ'.set i (some (.ref a))) M1 fun x M2 => truP x M2 fun k M3 => if (!k) = true then J.rt (.bl false) M3 else nx ((τ'.set i (some (.ref a))).set i none) M3 } (fun τ' M' => wpS e J nx τ' M') τ M := rfl
theorem s_tryC {s : ZS} {x : Str} {fl : List Str} {i : Nat} {js : List SJ} : wpS (.tryC s x fl i js) J nx τ M = wpS s { J with ex := fun τ' c' fs M' => c' = x ∧ i < τ'.length ∧ fs ≠ [] ∧ ∀ a d φ, M' d = none → wSJs i js ⟨a, d, φ, fs⟩ (fun _ _ _ => False) (τ'.set i (some (.ref a))) (mu M' d (.abs φ [d])) J.rt } nx τ M := rfl
section
variable {i : Nat} {xa : XA} {E : ZX} {τ : Tau} {M : Mp} {Q : ZQ}
theorem j_one {s : SJ} : wSJs i [s] xa E τ M Q = wSJ i s xa E τ M Q := rfl
theorem j_and {s t : SJ} {r : List SJ} : wSJs i (s :: t :: r) xa E τ M Q = wSJ i s xa E τ M fun x M1 => truP x M1 fun k M2 => if k = true then wSJs i (t :: r) xa E τ M2 Q else Q x M2 := rfl
theorem j_z {e : ZE} : wSJ i (.z e) xa E τ M Q = wpE e E τ M Q := rfl
theorem j_same {x : Str} {n : Nat} {sp : ZSp} {l r : SA} : wSJ i (.same x n sp l r) xa E τ M Q = wSA i l xa E τ M fun u M1 => wSA i r xa E τ M1 fun v M2 => sp [u, v] M2 Q E := rfl
theorem ja_one {b : SB} : wSA i (.one b) xa E τ M Q = wSB i b xa E τ M Q := rfl
theorem ja_two {a b : SB} : wSA i (.two a b) xa E τ M Q = wSB i a xa E τ M fun u M1 => wSB i b xa E τ M1 fun v M2 => [u, v].length ≤ sizeLine ∧ Q (.tup [u, v]) M2 := rfl
theorem jb_z {e : ZE} : wSB i (.z e) xa E τ M Q = wpE e E τ M Q := rfl
theorem jb_fld {f : Str} : wSB i (.fld f) xa E τ M Q = (τ[i]? = some (some (.ref xa.a)) ∧ M xa.d = some (.abs xa.φ [xa.d]) ∧ ∃ x, xa.fs.lookup f = some x ∧ Q x M) := rfl
end
theorem s_fors {g : ZG} {it : ZI} {s : ZS} : wpS (.fors g it s) J nx τ M = wpI it (J.ex τ) τ M fun sq M1 => forP sq.ok (fun x τ M k => wpG g x τ M fun τ' M' => wpS s { J with bk := nx, ct := k } k τ' M') nx sq.its τ M1 := rfl
theorem tru_bl {k : Bool} {Q : Bool → Mp → Prop} : truP (.bl k) M Q = Q k M := rfl
theorem tru_non {Q : Bool → Mp → Prop} : truP .non M Q = Q false M := rfl
theorem tru_int {k : Int} {Q : Bool → Mp → Prop} : truP (.int k) M Q = Q (k != 0) M := rfl
theorem tru_tup {Q : Bool → Mp → Prop} : truP (.tup xs) M Q = Q (!xs.isEmpty) M := rfl
theorem tru_ref {p : Addr} {Q : Bool → Mp → Prop} (h : lget M p = some xs) : truP (.ref p) M Q = Q (!xs.isEmpty) M := by
  show (match lget M p with | some xs => _ | none => _) = _; rw [h]
theorem isBl_bl {k : Bool} {Q : Bool → Mp → Prop} : isBl (.bl k) M Q = Q k M := rfl
/-! operators on ints -/
section
variable {k l : Int}
theorem b_add : bin2 .Add (.int k) (.int l) M Q = Q (.int (k + l)) M := rfl
theorem b_adds {x y : Str} : bin2 .Add (.str x) (.str y) M Q = (x.length + y.length ≤ sizeLine ∧ Q (.str (x ++ y)) M) := rfl
theorem b_addt : bin2 .Add (.tup xs) (.tup ys) M Q = (xs.length + ys.length ≤ sizeLine ∧ Q (.tup (xs ++ ys)) M) := rfl
theorem b_addl {p q : Addr} (h : M p = some (.lst xs)) (h' : M q = some (.lst ys)) : bin2 .Add (.ref p) (.ref q) M Q = newL M (xs ++ ys) Q := by
  show (match M p, M q with | some (.lst xs), some (.lst ys) => _ | _, _ => False) = _; rw [h, h']
theorem b_sub : bin2 .Sub (.int k) (.int l) M Q = Q (.int (k - l)) M := rfl
theorem b_mul : bin2 .Mult (.int k) (.int l) M Q = (mulOk k l ∧ Q (.int (k * l)) M) := rfl
theorem b_rep {p : Addr} (h : M p = some (.lst xs)) : bin2 .Mult (.ref p) (.int k) M Q = ((-(2 ^ 63) ≤ k ∧ k < 2 ^ 63 ∧ xs.length * k.toNat ≤ sizeLine) ∧ allocL Q (List.replicate k.toNat xs).flatten M) := by
  show (match M p with | some (.lst xs) => _ | _ => False) = _; rw [h]; rfl
theorem b_rept {xs : List PV} : bin2 .Mult (.tup xs) (.int k) M Q = ((xs ≠ [] ∧ 1 ≤ k ∧ k ≤ 1000 ∧ xs.length ≤ 1000) ∧ Q (.tup (List.replicate k.toNat xs).flatten) M) := rfl
theorem b_div : bin2 .FloorDiv (.int k) (.int l) M Q = (divOk k l ∧ Q (.int (k / l)) M) := rfl
theorem b_mod : bin2 .Mod (.int k) (.int l) M Q = (0 < l ∧ Q (.int (k % l)) M) := rfl
theorem b_pow : bin2 .Pow (.int k) (.int l) M Q = (L2.CPow k l ∧ Q (.int (k ^ l.toNat)) M) := rfl
theorem b_shl : bin2 .LShift (.int k) (.int l) M Q = (L2.CPow k l ∧ Q (.int (k * 2 ^ l.toNat)) M) := rfl
theorem b_shr : bin2 .RShift (.int k) (.int l) M Q = (0 ≤ l ∧ Q (.int (k / 2 ^ l.toNat)) M) := rfl
theorem b_and : bin2 .BitAnd (.int k) (.int l) M Q = Q (.int (Builtin.bitAnd k l)) M := rfl
theorem b_or : bin2 .BitOr (.int k) (.int l) M Q = Q (.int (Builtin.bitOr k l)) M := rfl
theorem b_xor : bin2 .BitXor (.int k) (.int l) M Q = Q (.int (Builtin.bitXor k l)) M := rfl
theorem u_neg : unP .USub (.int k) M Q = Q (.int (-k)) M := rfl
theorem u_inv : unP .Invert (.int k) M Q = Q (.int (Builtin.bitNot k)) M := rfl
theorem c_eq : cmpP .Eq (.int k) (.int l) M Q = Q (.bl (decide (k = l))) M := by show Q (.bl (false != decide (k = l))) M = _; simp
theorem c_eqs {x y : Str} : cmpP .Eq (.str x) (.str y) M Q = Q (.bl (decide (x = y))) M := by show Q (.bl (false != decide (x = y))) M = _; simp
theorem c_eqb {x y : Bool} : cmpP .Eq (.bl x) (.bl y) M Q = Q (.bl (decide (x = y))) M := by show Q (.bl (false != decide (x = y))) M = _; simp
theorem c_ne : cmpP .NotEq (.int k) (.int l) M Q = Q (.bl (!decide (k = l))) M := by show Q (.bl (true != decide (k = l))) M = _; simp
theorem c_nes {x y : Str} : cmpP .NotEq (.str x) (.str y) M Q = Q (.bl (!decide (x = y))) M := by show Q (.bl (true != decide (x = y))) M = _; simp
theorem c_neb {x y : Bool} : cmpP .NotEq (.bl x) (.bl y) M Q = Q (.bl (!decide (x = y))) M := by show Q (.bl (true != decide (x = y))) M = _; simp
theorem c_lt : cmpP .Lt (.int k) (.int l) M Q = Q (.bl (decide (k < l))) M := rfl
theorem c_le : cmpP .LtE (.int k) (.int l) M Q = Q (.bl (decide (k ≤ l))) M := rfl
theorem c_gt : cmpP .Gt (.int k) (.int l) M Q = Q (.bl (decide (l < k))) M := rfl
theorem c_ge : cmpP .GtE (.int k) (.int l) M Q = Q (.bl (decide (l ≤ k))) M := rfl
theorem au_add : augP .Add (.int k) (.int l) M Q = Q (.int (k + l)) M := rfl
theorem au_sub : augP .Sub (.int k) (.int l) M Q = Q (.int (k - l)) M := rfl
/-! built-ins -/
theorem f_lent : bltP .len [.tup xs] M Q = Q (.int xs.length) M := rfl
theorem f_lens : bltP .len [.str x] M Q = (x.length ≤ sizeLine ∧ Q (.int x.length) M) := rfl
theorem f_lenr {p : Addr} (h : lget M p = some xs) : bltP .len [.ref p] M Q = Q (.int xs.length) M := by show (match lget M p with | some xs => _ | none => False) = _; rw [h]
theorem f_abs : bltP .abs [.int k] M Q = Q (.int (if k < 0 then -k else k)) M := rfl
theorem f_int : bltP .int [.int k] M Q = Q (.int k) M := rfl
theorem f_intb {b : Bool} : bltP .int [.bl b] M Q = Q (.int (if b then 1 else 0)) M := rfl
theorem f_max : bltP .max [.int k, .int l] M Q = Q (.int (max k l)) M := by
  show Q (.int (if l > k then l else k)) M = _
  have : (if l > k then l else k) = max k l := by split <;> omega
  rw [this]
theorem f_min : bltP .min [.int k, .int l] M Q = Q (.int (min k l)) M := by
  show Q (.int (if l < k then l else k)) M = _
  have : (if l < k then l else k) = min k l := by split <;> omega
  rw [this]
theorem f_maxl {p : Addr} {ns : List Int} (h : lget M p = some (ns.map PV.int)) : bltP .max [.ref p] M Q = (ns ≠ [] ∧ Q (.int (maxL ns)) M) := by
  show (match (lget M p).bind zints with | some ns => _ | none => False) = _; rw [h, Option.bind_some, zints_map]
theorem f_minl {p : Addr} {ns : List Int} (h : lget M p = some (ns.map PV.int)) : bltP .min [.ref p] M Q = (ns ≠ [] ∧ Q (.int (minL ns)) M) := by
  show (match (lget M p).bind zints with | some ns => _ | none => False) = _; rw [h, Option.bind_some, zints_map]
theorem f_suml {p : Addr} {ns : List Int} (h : lget M p = some (ns.map PV.int)) : bltP .sum [.ref p] M Q = Q (.int ns.sum) M := by
  show (match (lget M p).bind zints with | some ns => _ | none => False) = _; rw [h, Option.bind_some, zints_map]
theorem f_tupt : bltP .tuple [.tup xs] M Q = Q (.tup xs) M := rfl
theorem f_tupl {p : Addr} (h : lget M p = some xs) : bltP .tuple [.ref p] M Q = Q (.tup xs) M := by show (match lget M p with | some ys => _ | none => False) = _; rw [h]
theorem f_listt : bltP .list [.tup xs] M Q = allocL Q xs M := rfl
theorem f_listl {p : Addr} (h : lget M p = some xs) : bltP .list [.ref p] M Q = allocL Q xs M := by show (match lget M p with | some ys => _ | none => False) = _; rw [h]; rfl
theorem f_isi {n m : String} {r : Bool} (h : pty y M = some n) (h2 : isiB n m = some r) : bltP .isi [y, .ty m] M Q = Q (.bl r) M := by
  show (match (pty y M).bind (isiB · m) with | some b => _ | none => False) = _
  rw [h, Option.bind_some, h2]
theorem f_isi_ii : bltP .isi [.int k, .ty "int"] M Q = Q (.bl true) M := f_isi rfl rfl
theorem f_isi_ib : bltP .isi [.int k, .ty "bool"] M Q = Q (.bl false) M := f_isi rfl rfl
theorem f_isi_it : bltP .isi [.int k, .ty "tuple"] M Q = Q (.bl false) M := f_isi rfl rfl
theorem f_isi_is : bltP .isi [.int k, .ty "str"] M Q = Q (.bl false) M := f_isi rfl rfl
theorem f_isi_il : bltP .isi [.int k, .ty "list"] M Q = Q (.bl false) M := f_isi rfl rfl
theorem f_isi_tt : bltP .isi [.tup xs, .ty "tuple"] M Q = Q (.bl true) M := f_isi rfl rfl
theorem f_isi_ti : bltP .isi [.tup xs, .ty "int"] M Q = Q (.bl false) M := f_isi rfl rfl
theorem f_isi_tb : bltP .isi [.tup xs, .ty "bool"] M Q = Q (.bl false) M := f_isi rfl rfl
theorem f_isi_ts : bltP .isi [.tup xs, .ty "str"] M Q = Q (.bl false) M := f_isi rfl rfl
theorem f_isi_tl : bltP .isi [.tup xs, .ty "list"] M Q = Q (.bl false) M := f_isi rfl rfl
theorem f_isi_bb {q : Bool} : bltP .isi [.bl q, .ty "bool"] M Q = Q (.bl true) M := f_isi rfl rfl
theorem f_isi_bi {q : Bool} : bltP .isi [.bl q, .ty "int"] M Q = Q (.bl true) M := f_isi rfl rfl
theorem f_isi_ss : bltP .isi [.str x, .ty "str"] M Q = Q (.bl true) M := f_isi rfl rfl
theorem f_isi_st : bltP .isi [.str x, .ty "tuple"] M Q = Q (.bl false) M := f_isi rfl rfl
theorem f_isi_si : bltP .isi [.str x, .ty "int"] M Q = Q (.bl false) M := f_isi rfl rfl
theorem f_isi_sb : bltP .isi [.str x, .ty "bool"] M Q = Q (.bl false) M := f_isi rfl rfl
theorem f_str : bltP .str [.int k] M Q = (k.natAbs.log2 < 1920 ∧ Q (.str (toString k)) M) := rfl
/-! subscripts, methods, stores -/
theorem atI_ok {α : Type} {xs : List α} {k : Int} {z : α} (h0 : 0 ≤ k) (h : xs[k.toNat]? = some z) : L2.atI xs k = some z := by
  have e : k = (k.toNat : Int) := by omega
  rw [e]
  exact L2.atI_nat h
theorem x_tup (h : L2.atI xs k = some z) : ixP (.tup xs) (.int k) M Q = Q z M := by show (match L2.atI xs k with | some z => _ | none => False) = _; rw [h]
theorem x_ref {p : Addr} (h : lget M p = some xs) (h2 : L2.atI xs k = some z) : ixP (.ref p) (.int k) M Q = Q z M := by
  unfold ixP; dsimp only; rw [h]; dsimp only; rw [h2]
theorem f_mnd {mx : Bool} {p : Addr} {ns : List Int} (h : lget M p = some (ns.map PV.int)) : mndP mx (.ref p) y M Q = ((ns = [] → Q y M) ∧ (ns ≠ [] → Q (.int (mndI mx ns)) M)) := by
  show (match (lget M p).bind zints with | some ns => _ | none => False) = _; rw [h, Option.bind_some, zints_map]
theorem in_dic {p : Addr} {kvs : List (L2.Key × PV)} {q : L2.Key} {neg : Bool} (h : M p = some (.dic kvs)) (hk : keyOf y = some q) (hq : Q (.bl (neg != (valZ kvs q).isSome)) M) : inP neg y (.ref p) M Q := by
  have e1 : seqOf (.ref p) M = none := by show lget M p = none; unfold lget; rw [h]
  have e2 : dicOf (.ref p) M = some kvs := by unfold dicOf; dsimp only; rw [h]
  cases y <;> (unfold inP; dsimp only; rw [e1]; dsimp only; rw [e2]; exact ⟨q, hk, hq⟩)
theorem lget_dic {p : Addr} {kvs : List (L2.Key × PV)} (h : M p = some (.dic kvs)) : lget M p = none := by unfold lget; rw [h]
theorem dicOf_at {p : Addr} {kvs : List (L2.Key × PV)} (h : M p = some (.dic kvs)) : dicOf (.ref p) M = some kvs := by unfold dicOf; dsimp only; rw [h]
theorem x_dic {p : Addr} {kvs : List (L2.Key × PV)} {q : L2.Key} (h : M p = some (.dic kvs)) (hk : keyOf y = some q) (hz : valZ kvs q = some z) (hq : Q z M) : ixP (.ref p) y M Q := by
  cases y <;> (unfold ixP; dsimp only; rw [lget_dic h]; dsimp only; rw [dicOf_at h]; exact ⟨q, z, hk, hz, hq⟩)
theorem x_tup0 : ixP (.tup (y :: xs)) (.int 0) M Q = Q y M := x_tup (L2.atI_nat (j := 0) rfl)
theorem x_tup1 {y0 : PV} : ixP (.tup (y0 :: y :: xs)) (.int 1) M Q = Q y M := by
  refine x_tup (atI_ok (by decide) ?_); rfl
theorem x_tup2 {y0 y1 : PV} : ixP (.tup (y0 :: y1 :: y :: xs)) (.int 2) M Q = Q y M := by
  refine x_tup (atI_ok (by decide) ?_); rfl
theorem m_app {p : Addr} (h : M p = some (.lst xs)) : mthP .append (.ref p) [y] M Q = (xs.length < sizeLine ∧ Q .non (mu M p (.lst (xs ++ [y])))) := by
  show (match M p with | some (.lst ys) => _ | _ => False) = _; rw [h]
theorem m_lst {m : Mth} {p : Addr} (hm : m = .append ∨ m = .pop ∨ m = .popAt ∨ m = .extend ∨ m = .reverse ∨ m = .index) (h : lget M p = some xs) : mthO m (.ref p) M = True := by
  have e : isLst (.ref p) M = True := by show (match lget M p with | some _ => True | none => False) = _; rw [h]
  rcases hm with rfl | rfl | rfl | rfl | rfl | rfl <;> exact e
theorem m_bits : (mthO .bits (.int k) M) = True := rfl
theorem m_bits2 : mthP .bits (.int k) [] M Q = Q (.int (Builtin.Int.intBits k : Nat)) M := rfl
theorem zfls_ints : ∀ ns : List Int, zfls (ns.map PV.int) = some (ns.map Fl.i)
  | [] => rfl
  | n :: ns => by
    show (zfls (ns.map PV.int)).map _ = _
    rw [zfls_ints ns]; rfl
theorem zfls_bls : ∀ ns : List Bool, zfls (ns.map PV.bl) = some (ns.map Fl.b)
  | [] => rfl
  | n :: ns => by
    show (zfls (ns.map PV.bl)).map _ = _
    rw [zfls_bls ns]; rfl
theorem anyi_ints {x : PV} {ns : List Int} (h : seqOf x M = some (ns.map PV.int)) : op1P .anyi x M Q = Q (.bl (ns.any (· != 0))) M := by
  show (match (seqOf x M).bind zfls with
    | some fs => Q (.bl (fs.any Fl.t)) M
    | none => False) = _
  rw [h, Option.bind_some, zfls_ints]
  show Q (.bl ((ns.map Fl.i).any Fl.t)) M = _
  rw [List.any_map]; rfl
theorem anyi_bls {x : PV} {ns : List Bool} (h : seqOf x M = some (ns.map PV.bl)) : op1P .anyi x M Q = Q (.bl (ns.any id)) M := by
  show (match (seqOf x M).bind zfls with
    | some fs => Q (.bl (fs.any Fl.t)) M
    | none => False) = _
  rw [h, Option.bind_some, zfls_bls]
  show Q (.bl ((ns.map Fl.b).any Fl.t)) M = _
  rw [List.any_map]; rfl
theorem alli_ints {x : PV} {ns : List Int} (h : seqOf x M = some (ns.map PV.int)) : op1P .alli x M Q = Q (.bl (ns.all (· != 0))) M := by
  show (match (seqOf x M).bind zfls with
    | some fs => Q (.bl (fs.all Fl.t)) M
    | none => False) = _
  rw [h, Option.bind_some, zfls_ints]
  show Q (.bl ((ns.map Fl.i).all Fl.t)) M = _
  rw [List.all_map]; rfl
theorem srev_ok {p : Addr} {d : Bool} {ps : List (Int × PV)} (h : lget M p = some (ps.map tagP)) (hn : (ps.map (·.1)).Nodup) (hq : ∀ ps' : List (Int × PV), ps'.Perm ps → OrdT d ps' → allocL Q (ps'.map tagP) M) : op2P .srev (.ref p) (.bl d) M Q := by
  show (match (lget M p).bind ztags with
    | some ps => (ps.map (·.1)).Nodup ∧ ∀ ps' : List (Int × PV), ps'.Perm ps → OrdT d ps' → allocL Q (ps'.map tagP) M
    | none => False)
  rw [h, Option.bind_some, ztags_map]
  exact ⟨hn, hq⟩
theorem rev_l {p : Addr} {xs : List PV} {Q : ZSeq → Mp → Prop} (h : lget M p = some xs) : it1P .rev (.ref p) M Q = Q ⟨xs.reverse, fun M => lget M p = some xs⟩ M := by
  show (match srcOf (.ref p) M with
    | some sq => Q ⟨sq.its.reverse, sq.ok⟩ M
    | none => False) = _
  rw [src_l h]
theorem rev_t {xs : List PV} {Q : ZSeq → Mp → Prop} : it1P .rev (.tup xs) M Q = Q ⟨xs.reverse, fun _ => True⟩ M := rfl
theorem revr1_i {n : Int} {Q : ZSeq → Mp → Prop} : it1P .revr1 (.int n) M Q = ((-(2 ^ 62) ≤ (0 : Int) ∧ (0 : Int) < 2 ^ 62 ∧ -(2 ^ 62) ≤ n ∧ n < 2 ^ 62) ∧ Q ⟨(rngL 0 (n - 0).toNat).reverse, fun _ => True⟩ M) := rfl
theorem rvl_l {p : Addr} {xs : List PV} (h : lget M p = some xs) : op1P .rvl (.ref p) M Q = allocL Q xs.reverse M := by
  show (match lget M p with
    | some xs => allocL Q xs.reverse M
    | none => False) = _
  rw [h]
theorem o_asT : op1P .asT y M Q = Q (thaw y) M := rfl
theorem o_tupf : op1P .tupF (.ftu xs) M Q = Q (.ftu xs) M := rfl
theorem o_tupt : op1P .tupF (.tup xs) M Q = Q (.tup xs) M := rfl
theorem o_tupl {p : Addr} (h : lget M p = some xs) : op1P .tupF (.ref p) M Q = Q (.ftu xs) M := by
  show (match lget M p with
    | some xs => Q (.ftu xs) M
    | none => False) = _
  rw [h]
theorem th_ref {p : Addr} : thaw (.ref p) = .ref p := rfl
theorem th_int : thaw (.int k) = .int k := rfl
theorem th_str : thaw (.str x) = .str x := rfl
theorem th_bl {b : Bool} : thaw (.bl b) = .bl b := rfl
theorem th_non : thaw .non = .non := rfl
theorem th_tup : thaw (.tup xs) = .tup (thaws xs) := rfl
theorem th_ftu : thaw (.ftu xs) = .tup (thaws xs) := rfl
theorem ths_nil : thaws [] = [] := rfl
theorem ths_cons : thaws (y :: xs) = thaw y :: thaws xs := rfl
theorem ths_map : thaws xs = xs.map thaw := by
  induction xs with
  | nil => rfl
  | cons y xs ih => rw [ths_cons, ih, List.map_cons]
theorem rvl_t : op1P .rvl (.tup xs) M Q = Q (.tup xs.reverse) M := rfl
theorem indT {j : Nat} (hf : (flatP y = true ∧ xs.all flatP = true)) (h : xs.findIdx? (eqF · y) = some j) : mthP .indexT (.ftu xs) [y] M Q = Q (.int (j : Nat)) M := by
  show ((flatP y = true ∧ xs.all flatP = true) ∧ match xs.findIdx? (eqF · y) with
    | some j => Q (.int (j : Nat)) M
    | none => False) = _
  rw [h]
  exact propext ⟨fun q => q.2, fun q => ⟨hf, q⟩⟩
theorem indTo : mthO .indexT (.ftu xs) M = True := rfl
theorem set_ok {p : Addr} {n : Nat} {Q : Mp → Prop} (h : M p = some (.lst xs)) (h2 : L2.ixN xs.length k = some n) : setP (.ref p) (.int k) y M Q = Q (mu M p (.lst (xs.set n y))) := by
  unfold setP; dsimp only; rw [h]; dsimp only; rw [h2]
theorem set_dic {p : Addr} {i : PV} {kvs : List (L2.Key × PV)} {q : L2.Key} {Q : Mp → Prop} (h : M p = some (.dic kvs)) (hk : keyOf i = some q) (hl : kvs.length < sizeLine) (hq : Q (mu M p (.dic (putZ kvs q y)))) : setP (.ref p) i y M Q := by
  unfold setP; dsimp only; rw [h]; exact ⟨q, hk, hl, hq⟩
theorem ixN_ok {n : Nat} (h0 : 0 ≤ k) (h1 : k < n) : L2.ixN n k = some k.toNat := by unfold L2.ixN; rw [if_pos h0, if_pos h1]
end
/-! memory -/
theorem lget_mu {p : Addr} : lget (mu M p (.lst xs)) p = some xs := by unfold lget; rw [mu_same]
theorem lget_ne {p q : Addr} {o : MO} (h : q ≠ p) : lget (mu M p o) q = lget M q := by unfold lget; rw [mu_ne h]
theorem lget_of {p : Addr} (h : M p = some (.lst xs)) : lget M p = some xs := by unfold lget; rw [h]
theorem ne_new {p q : Addr} {o : MO} (h : M p = none) (h' : M q = some o) : q ≠ p := fun z => by subst z; rw [h] at h'; cases h'
theorem ne_newl {p q : Addr} (h : M p = none) (h' : lget M q = some xs) : q ≠ p := fun z => by subst z; unfold lget at h'; rw [h] at h'; cases h'
theorem mu_mu {p : Addr} {o o' : MO} : mu (mu M p o) p o' = mu M p o' := by funext b; unfold mu; split <;> rfl
end
/-! loops by what holds (each turn may forget) -/
theorem for_by {ok : Mp → Prop} {step : PV → Tau → Mp → (Tau → Mp → Prop) → Prop} {nx : Tau → Mp → Prop} (I : List PV → List PV → Tau → Mp → Prop)
    (hok : ∀ pre post τ M, I pre post τ M → ok M) (hend : ∀ pre τ M, I pre [] τ M → nx τ M)
    (hstep : ∀ pre x post τ M (k : Tau → Mp → Prop), I pre (x :: post) τ M → (∀ τ' M' M2, Fg M2 M' → I (pre ++ [x]) post τ' M2 → k τ' M') → step x τ M k) : ∀ (xs pre : List PV) (τ : Tau) (M : Mp), I pre xs τ M → forP ok step nx xs τ M
  | [], pre, τ, M, h => ⟨hok _ _ _ _ h, hend _ _ _ h⟩
  | x :: xs, pre, τ, M, h => ⟨hok _ _ _ _ h, hstep _ _ _ _ _ _ h fun τ' M' M2 fg h' => ⟨M2, fg, for_by I hok hend hstep xs (pre ++ [x]) τ' M2 h'⟩⟩
/-- the same over a mapped list, by the number of turns -/
theorem for_map {α : Type} {ok : Mp → Prop} {step : PV → Tau → Mp → (Tau → Mp → Prop) → Prop} {nx : Tau → Mp → Prop} (f : α → PV) (as : List α) (I : List α → Tau → Mp → Prop)
    (hok : ∀ pre post τ M, pre ++ post = as → I pre τ M → ok M) (hend : ∀ τ M, I as τ M → nx τ M)
    (hstep : ∀ pre x post τ M (k : Tau → Mp → Prop), pre ++ x :: post = as → I pre τ M → (∀ τ' M' M2, Fg M2 M' → I (pre ++ [x]) τ' M2 → k τ' M') → step (f x) τ M k) (τ : Tau) (M : Mp) (h0 : I [] τ M) : forP ok step nx (as.map f) τ M := by
  have aux : ∀ (post pre : List α) (τ : Tau) (M : Mp), pre ++ post = as → I pre τ M → forP ok step nx (post.map f) τ M := by
    intro post
    induction post with
    | nil => intro pre τ M e h; rw [List.append_nil] at e; subst e; exact ⟨hok pre [] τ M (by simp) h, hend _ _ h⟩
    | cons x post ih =>
      intro pre τ M e h
      exact ⟨hok _ _ _ _ e h, hstep pre x post τ M _ e h fun τ' M' M2 fg h' => ⟨M2, fg, ih (pre ++ [x]) τ' M2 (by rw [← e]; simp) h'⟩⟩
  exact aux as [] τ M rfl h0
/-- over range -/
theorem for_rng {ok : Mp → Prop} {step : PV → Tau → Mp → (Tau → Mp → Prop) → Prop} {nx : Tau → Mp → Prop} (I : Nat → Tau → Mp → Prop) (n : Nat) (lo : Int)
    (hok : ∀ M, ok M) (hend : ∀ τ M, I n τ M → nx τ M)
    (hstep : ∀ i τ M (k : Tau → Mp → Prop), i < n → I i τ M → (∀ τ' M' M2, Fg M2 M' → I (i + 1) τ' M2 → k τ' M') → step (.int (lo + i)) τ M k) (τ : Tau) (M : Mp) (h0 : I 0 τ M) : forP ok step nx (rngL lo n) τ M := by
  have aux : ∀ (m i : Nat) (τ : Tau) (M : Mp), i + m = n → I i τ M → forP ok step nx (rngL (lo + i) m) τ M := by
    intro m
    induction m with
    | zero => intro i τ M e h; rw [Nat.add_zero] at e; subst e; exact ⟨hok M, hend _ _ h⟩
    | succ m ih =>
      intro i τ M e h
      have e1 : rngL (lo + i) (m + 1) = .int (lo + i) :: rngL (lo + (i + 1 : Nat)) m := by
        rw [show lo + ((i + 1 : Nat) : Int) = lo + i + 1 by omega]
        unfold rngL
        rw [List.range_succ_eq_map, List.map_cons, List.map_map]
        congr 1
        · simp
        · refine List.map_congr_left fun k _ => ?_
          show PV.int _ = PV.int _
          congr 1
          show lo + (i : Int) + ((k + 1 : Nat) : Int) = lo + (i : Int) + 1 + (k : Nat)
          omega
      rw [e1]
      exact ⟨hok M, hstep i τ M _ (by omega) h fun τ' M' M2 fg h' => ⟨M2, fg, ih (i + 1) τ' M2 (by omega) h'⟩⟩
  have := aux n 0 τ M (by omega) h0
  simpa using this
theorem lc_by {ok : Mp → Prop} {f : PV → Mp → (Option PV → Mp → Prop) → Prop} {fin : List PV → Mp → Prop} (I : List PV → List PV → List PV → Mp → Prop)
    (hok : ∀ pre post acc M, I pre post acc M → ok M) (hend : ∀ pre acc M, I pre [] acc M → fin acc M)
    (hstep : ∀ pre x post acc M (k : Option PV → Mp → Prop), I pre (x :: post) acc M → (∀ y M' M2, Fg M2 M' → acc.length < sizeLine → I (pre ++ [x]) post (acc ++ [y]) M2 → k (some y) M') → (∀ M' M2, Fg M2 M' → I (pre ++ [x]) post acc M2 → k none M') → f x M k)
    : ∀ (xs pre acc : List PV) (M : Mp), I pre xs acc M → lcP ok f fin xs acc M
  | [], pre, acc, M, h => ⟨hok _ _ _ _ h, hend _ _ _ h⟩
  | x :: xs, pre, acc, M, h => ⟨hok _ _ _ _ h, hstep _ _ _ _ _ _ h (fun y M' M2 fg hl h' => ⟨hl, M2, fg, lc_by I hok hend hstep xs (pre ++ [x]) (acc ++ [y]) M2 h'⟩) fun M' M2 fg h' => ⟨M2, fg, lc_by I hok hend hstep xs (pre ++ [x]) acc M2 h'⟩⟩
/-- the elements that pass, each one's value; the memory as it was (but for what is forgotten) -/
theorem lc_fm {α : Type} {ok : Mp → Prop} {f : PV → Mp → (Option PV → Mp → Prop) → Prop} {fin : List PV → Mp → Prop} {M : Mp} (e : α → PV) (g : α → Option PV) (as : List α) (acc : List PV) (hok : ok M) (hl : acc.length + as.length ≤ sizeLine)
    (hf : ∀ x ∈ as, ∀ k : Option PV → Mp → Prop, (∀ M', Fg M M' → k (g x) M') → f (e x) M k) (hend : fin (acc ++ as.filterMap g) M) : lcP ok f fin (as.map e) acc M := by
  induction as generalizing acc with
  | nil => exact ⟨hok, by simpa using hend⟩
  | cons x xs ih =>
    rw [List.length_cons] at hl
    refine ⟨hok, hf x List.mem_cons_self _ fun M' fg => ?_⟩
    cases eg : g x with
    | none => exact ⟨M, fg, ih acc (by omega) (fun y hy => hf y (List.mem_cons_of_mem _ hy)) (by rw [List.filterMap_cons_none eg] at hend; exact hend)⟩
    | some y => exact ⟨by omega, M, fg, ih (acc ++ [y]) (by rw [List.length_append, List.length_singleton]; omega) (fun z hz => hf z (List.mem_cons_of_mem _ hz)) (by rw [List.filterMap_cons_some eg] at hend; simpa using hend)⟩
/-- a map -/
theorem lc_map {α : Type} {ok : Mp → Prop} {f : PV → Mp → (Option PV → Mp → Prop) → Prop} {fin : List PV → Mp → Prop} {M : Mp} (e : α → PV) (g : α → PV) (as : List α) (acc : List PV) (hok : ok M) (hl : acc.length + as.length ≤ sizeLine)
    (hf : ∀ x ∈ as, ∀ k : Option PV → Mp → Prop, (∀ M', Fg M M' → k (some (g x)) M') → f (e x) M k) (hend : fin (acc ++ as.map g) M) : lcP ok f fin (as.map e) acc M := by
  refine lc_fm e (fun x => some (g x)) as acc hok hl hf ?_
  have : as.filterMap (fun x => some (g x)) = as.map g := by
    induction as with
    | nil => rfl
    | cons x xs ih => simp
  rw [this]; exact hend
/-- elements of which only something is known -/
theorem lc_all {α : Type} {ok : Mp → Prop} {f : PV → Mp → (Option PV → Mp → Prop) → Prop} {fin : List PV → Mp → Prop} {M : Mp} (e : α → PV) (φ : α → PV → Prop) (as : List α) (acc : List PV) (hok : ok M) (hl : acc.length + as.length ≤ sizeLine)
    (hf : ∀ x ∈ as, ∀ k : Option PV → Mp → Prop, (∀ y M', Fg M M' → φ x y → k (some y) M') → f (e x) M k) (hend : ∀ ys, Paired φ as ys → fin (acc ++ ys) M) : lcP ok f fin (as.map e) acc M := by
  induction as generalizing acc with
  | nil => exact ⟨hok, by simpa using hend [] .nil⟩
  | cons x xs ih =>
    rw [List.length_cons] at hl
    refine ⟨hok, hf x List.mem_cons_self _ fun y M' fg hy => ⟨by omega, M, fg, ih (acc ++ [y]) (by rw [List.length_append, List.length_singleton]; omega) (fun z hz => hf z (List.mem_cons_of_mem _ hz)) fun ys h => ?_⟩⟩
    have := hend (y :: ys) (.cons hy h)
    simpa using this
theorem dc_by {α : Type} {ok : Mp → Prop} {f : PV → Mp → (Option (PV × PV) → Mp → Prop) → Prop} {fin : List (L2.Key × PV) → Mp → Prop} {M : Mp} (e : α → PV) (g : α → L2.Key × PV) (kk : L2.Key → PV) (hk : ∀ q, keyOf (kk q) = some q) (as : List α) (acc : List (L2.Key × PV)) (hok : ok M) (hl : acc.length + as.length ≤ sizeLine)
    (hf : ∀ x ∈ as, ∀ k : Option (PV × PV) → Mp → Prop, (∀ M', Fg M M' → k (some (kk (g x).1, (g x).2)) M') → f (e x) M k) (hend : fin (as.foldl (fun acc x => putZ acc (g x).1 (g x).2) acc) M) : dcP ok f fin (as.map e) acc M := by
  induction as generalizing acc with
  | nil => exact ⟨hok, hend⟩
  | cons x xs ih =>
    rw [List.length_cons] at hl
    refine ⟨hok, hf x List.mem_cons_self _ fun M' fg => ⟨by omega, _, hk _, M, fg, ih _ ?_ (fun y hy => hf y (List.mem_cons_of_mem _ hy)) hend⟩⟩
    have : (putZ acc (g x).1 (g x).2).length ≤ acc.length + 1 := by
      unfold putZ
      split
      · rw [List.length_map]; omega
      · rw [List.length_append, List.length_singleton]; exact Nat.le_refl _
    omega
/-! forgetting -/
theorem fg_mu {M M' : Mp} {p : Addr} {o : MO} (h : Fg M M') (hp : M p = none) (ho : ∀ b, o ≠ .hid b) : Fg M (mu M' p o) := ⟨fun a q e => by
  have : a ≠ p := fun z => by subst z; rw [hp] at e; cases e
  rw [mu_ne this]; exact h.1 a q e, fun a b e => by
  by_cases ha : a = p
  · subst ha; rw [mu_same] at e; cases e; exact absurd rfl (ho b)
  · rw [mu_ne ha] at e; exact h.2 a b e⟩
theorem fg_mu2 {M M' : Mp} {p : Addr} {o : MO} (h : Fg M M') : Fg (mu M p o) (mu M' p o) := ⟨fun a q e => by
  by_cases ha : a = p
  · subst ha; rw [mu_same] at e ⊢; exact e
  · rw [mu_ne ha] at e ⊢; exact h.1 a q e, fun a b e => by
  by_cases ha : a = p
  · subst ha; rw [mu_same] at e ⊢; exact e
  · rw [mu_ne ha] at e ⊢; exact h.2 a b e⟩
theorem mu_swap {M : Mp} {p q : Addr} {o u : MO} (h : p ≠ q) : mu (mu M p o) q u = mu (mu M q u) p o := by
  funext b
  unfold mu
  by_cases h1 : b = q
  · subst h1; rw [if_pos rfl, if_neg (Ne.symm h), if_pos rfl]
  · rw [if_neg h1, if_neg h1]
theorem nohid_l {xs : List PV} : ∀ b, MO.lst xs ≠ .hid b := fun _ h => nomatch h
theorem nohid_d {xs : List (L2.Key × PV)} : ∀ b, MO.dic xs ≠ .hid b := fun _ h => nomatch h
theorem dropQ_of {k : ZQ} {r : PV} {M M' : Mp} (fg : Fg M M') (h : k r M) : dropQ k r M' := ⟨M, fg.sg, h⟩
theorem dropQ_id {k : ZQ} {r : PV} {M : Mp} (h : k r M) : dropQ k r M := ⟨M, Fg.refl.sg, h⟩
theorem while_by {t : ZT} {b : ZS} {J : ZJ} {nx : Tau → Mp → Prop} {τ : Tau} {M : Mp} (I : Nat → Tau → Mp → Prop) (m0 : Nat) (h0 : I m0 τ M)
    (h : ∀ m τ M, I m τ M → wpT t (J.ex τ) τ M fun c M1 => if c = true then wpS b { J with bk := nx, ct := dropT fun τ' M' => ∃ m', m' < m ∧ I m' τ' M' } (dropT fun τ' M' => ∃ m', m' < m ∧ I m' τ' M') τ M1 else nx τ M1) : wpS (.whiles t b) J nx τ M := ⟨I, ⟨m0, h0⟩, h⟩
theorem fg_at {M M' : Mp} {p : Addr} {o : MO} (h : Fg M M') (e : M' p = some o) : Fg (mu M p o) M' := ⟨fun a q ea => by
  by_cases hp : a = p
  · subst hp; rw [mu_same] at ea; rw [e]; exact ea
  · rw [mu_ne hp] at ea; exact h.1 a q ea, fun a b ea => by
  by_cases hp : a = p
  · subst hp; rw [mu_same, ← e]; exact ea
  · rw [mu_ne hp]; exact h.2 a b ea⟩
theorem fg_lget {M M' : Mp} {p : Addr} {xs : List PV} (h : Fg M M') (e : lget M p = some xs) : lget M' p = some xs := by
  unfold lget at e ⊢
  cases q : M p with
  | none => rw [q] at e; cases e
  | some o => rw [h.1 p o q]; rw [q] at e; exact e
theorem dropQ_at {k : ZQ} {M M' : Mp} {p : Addr} {xs : List PV} (hk : allocL k xs M) (h : Fg M M') (hp : M p = none) (e : M' p = some (.lst xs)) : dropQ k (.ref p) M' := ⟨mu M p (.lst xs), (fg_at h e).sg, hk p hp⟩
theorem new_none {M : Mp} {p a : Addr} {o : MO} (h : mu M a o p = none) : p ≠ a ∧ M p = none := by
  have : p ≠ a := fun z => by subst z; rw [mu_same] at h; cases h
  exact ⟨this, by rw [mu_ne this] at h; exact h⟩
/-! a list or a tuple -/
def IsSeq (x : PV) (M : Mp) (xs : List PV) : Prop := x = .tup xs ∨ ∃ p, x = .ref p ∧ lget M p = some xs
theorem IsSeq.fg {x : PV} {M M' : Mp} {xs : List PV} (h : IsSeq x M xs) (f : Fg M M') : IsSeq x M' xs := by
  rcases h with h | ⟨p, h, e⟩
  · exact .inl h
  · exact .inr ⟨p, h, fg_lget f e⟩
theorem IsSeq.src {x : PV} {M : Mp} {xs : List PV} (h : IsSeq x M xs) : ∃ ok : Mp → Prop, srcOf x M = some ⟨xs, ok⟩ ∧ ∀ M', Fg M M' → ok M' := by
  rcases h with rfl | ⟨p, rfl, e⟩
  · exact ⟨_, rfl, fun _ _ => trivial⟩
  · exact ⟨_, src_l e, fun M' f => fg_lget f e⟩
theorem IsSeq.len {x : PV} {M : Mp} {xs : List PV} {Q : ZQ} (h : IsSeq x M xs) : bltP .len [x] M Q = Q (.int xs.length) M := by
  rcases h with rfl | ⟨p, rfl, e⟩
  · rfl
  · exact f_lenr e
theorem IsSeq.tuple {x : PV} {M : Mp} {xs : List PV} {Q : ZQ} (h : IsSeq x M xs) : bltP .tuple [x] M Q = Q (.tup xs) M := by
  rcases h with rfl | ⟨p, rfl, e⟩
  · rfl
  · exact f_tupl e
theorem IsSeq.list {x : PV} {M : Mp} {xs : List PV} {Q : ZQ} (h : IsSeq x M xs) : bltP .list [x] M Q = allocL Q xs M := by
  rcases h with rfl | ⟨p, rfl, e⟩
  · rfl
  · exact f_listl e
theorem IsSeq.ix {x y : PV} {M : Mp} {xs : List PV} {k : Int} {Q : ZQ} (h : IsSeq x M xs) (h2 : L2.atI xs k = some y) : ixP x (.int k) M Q = Q y M := by
  rcases h with rfl | ⟨p, rfl, e⟩
  · exact x_tup h2
  · exact x_ref e h2
theorem IsSeq.enum {x : PV} {M : Mp} {xs : List PV} {Q : ZSeq → Mp → Prop} (h : IsSeq x M xs) (hq : ∀ ok : Mp → Prop, (∀ M', Fg M M' → ok M') → Q ⟨enumL 0 xs, ok⟩ M) : enumP x M Q := by
  obtain ⟨ok, e, h⟩ := h.src
  unfold enumP; rw [e]
  exact hq _ h
theorem IsSeq.zip {x y : PV} {M : Mp} {xs ys : List PV} {Q : ZSeq → Mp → Prop} (h : IsSeq x M xs) (h' : IsSeq y M ys) (hq : ∀ ok : Mp → Prop, (∀ M', Fg M M' → ok M') → Q ⟨zipL xs ys, ok⟩ M) : zipP x y M Q := by
  obtain ⟨ok, e, h⟩ := h.src
  obtain ⟨ok', e', h'⟩ := h'.src
  unfold zipP; rw [e, e']
  exact hq _ fun M' f => ⟨h M' f, h' M' f⟩
theorem IsSeq.seq {x : PV} {M : Mp} {xs : List PV} {Q : ZSeq → Mp → Prop} (h : IsSeq x M xs) (hq : ∀ ok : Mp → Prop, (∀ M', Fg M M' → ok M') → Q ⟨xs, ok⟩ M) : seqP x M Q := by
  rcases h with rfl | ⟨p, rfl, e⟩
  · exact hq _ fun _ _ => trivial
  · show (match lget M p with | some xs => _ | none => False)
    rw [e]
    exact hq _ fun M' f => fg_lget f e
theorem isSeq_new {M : Mp} {p : Addr} {xs : List PV} : IsSeq (.ref p) (mu M p (.lst xs)) xs := .inr ⟨p, rfl, lget_mu⟩
/-- two fors, each pair's value -/
theorem lc2_map {α : Type} {ok : Mp → Prop} {f : PV → List PV → Mp → (List PV → Mp → Prop) → Prop} {fin : List PV → Mp → Prop} {M : Mp} (e : α → PV) (h : α → List PV) (as : List α) (acc : List PV) (hok : ok M) (hl : (acc ++ as.flatMap h).length ≤ sizeLine)
    (hf : ∀ x ∈ as, ∀ acc : List PV, acc.length + (h x).length ≤ sizeLine → ∀ k : List PV → Mp → Prop, (∀ M', Fg M M' → k (acc ++ h x) M') → f (e x) acc M k) (hend : fin (acc ++ as.flatMap h) M) : lc2P ok f fin (as.map e) acc M := by
  induction as generalizing acc with
  | nil => exact ⟨hok, by simpa using hend⟩
  | cons x xs ih =>
    rw [List.flatMap_cons, List.length_append, List.length_append] at hl
    exact ⟨hok, hf x List.mem_cons_self _ (by omega) _ fun M' fg => ⟨M, fg, ih _ (by rw [List.length_append, List.length_append]; omega) (fun y hy => hf y (List.mem_cons_of_mem _ hy)) (by simpa using hend)⟩⟩
/-- the inner for -/
theorem lc_in {β : Type} {ok : Mp → Prop} {f : PV → Mp → (Option PV → Mp → Prop) → Prop} {k : List PV → Mp → Prop} {M : Mp} (e : β → PV) (g : β → PV) (bs : List β) (acc : List PV) (hok : ok M) (hl : acc.length + bs.length ≤ sizeLine)
    (hf : ∀ x ∈ bs, ∀ k : Option PV → Mp → Prop, (∀ M', Fg M M' → k (some (g x)) M') → f (e x) M k) (hend : ∀ M', Fg M M' → k (acc ++ bs.map g) M') : lcP ok f k (bs.map e) acc M := lc_map e g bs acc hok hl hf (hend M Fg.refl)
theorem w_own0 {α : Type} {τ : Tau} {f : α → Nat} : wipeT τ (List.map f []) = τ := rfl
theorem w_own {α : Type} {τ : Tau} {f : α → Nat} {a : α} {as : List α} : wipeT τ (List.map f (a :: as)) = (wipeT τ (List.map f as)).set (f a) none := rfl
theorem w_nil {τ : Tau} : wipeT τ [] = τ := rfl
theorem w_cons {τ : Tau} {v : Nat} {vs : List Nat} : wipeT τ (v :: vs) = (wipeT τ vs).set v none := rfl
end Zd

set_option Elab.async false
set_option linter.all false
set_option maxRecDepth 100000
set_option maxHeartbeats 8000000
/-! Zd 17: the defs of a module, one upon the other, and the law at its script. -/
namespace Zd
open PySem PySem.Spec PyProof.Rows L2

structure DefAt (K : PySem.W.Frag) (x : Str) (st : Stmt) (ps : List Str) (f : Addr) : Prop where
  ns : PySem.W.nsIn K mainGlobals x = some (some (.ref f))
  fd : ∃ fd, L2.Fun K x x st f fd ∧ Binds K fd ps []
  kp : PySem.W.keepIn K (.ref f) = true
section
variable {P : Program} {w : World} {K : PySem.W.Frag} {mg : Str → Option Value} {base h : Heap} {x : Str} {st : Stmt} {ps N bn : List Str} {s : ZS} {ms : ZSp} {k j n : Nat} {f : Addr}
theorem CallOk.of (D : DefAt K x st ps f) (X : K.In h) (G : h.Ns mainGlobals mg) (dk : DefOk st N ps bn s) (hbn : ∀ y ∈ bn, mg y = none) (hl : ps.length = n)
    (hok : okS (true = true) (fun x n ks sp => CalOk true P w K mg base k x n ks sp) (fun x n ks sp => CalOk false P w K mg base k x n ks sp) (fun x v => GlOk K mg x v) s) (hm : MeetsO N.length ps.length (wpS s) ms) : CallOk P w K mg base (k + 1) x n [] ms := by
  obtain ⟨fd, F, B⟩ := D.fd
  exact .mk <| .inr <| .inr ⟨f, fd, ps, ms, (fun z => nomatch z), def_ok F dk hbn hok hm, PySem.W.mg_of X G D.ns, D.kp, .inl ⟨rfl, B, hl, rfl⟩⟩
theorem CallOk.cal {ks : List Str} {sp : ZSp} (C : CallOk P w K mg base k x n ks sp) : CalOk true P w K mg base k x n ks sp := ⟨fun _ => C, fun z => Bool.noConfusion z⟩
theorem CallH.of (D : DefAt K x st ps f) (X : K.In h) (G : h.Ns mainGlobals mg) (dk : DefOk st N ps bn s) (hbn : ∀ y ∈ bn, mg y = none) (hl : ps.length = n)
    (hok : okS (false = true) (fun x n ks sp => CalOk false P w K mg base k x n ks sp) (fun x n ks sp => CalOk false P w K mg base k x n ks sp) (fun x v => GlOk K mg x v) s) (hm : MeetsO N.length ps.length (wpS s) ms) : CallH P w K mg base (k + 1) x n ms := by
  obtain ⟨fd, F, B⟩ := D.fd
  exact ⟨f, fd, ps, def_okH F dk hbn hok hm, PySem.W.mg_of X G D.ns, D.kp, B, hl⟩
theorem CallH.up {sp : ZSp} (C : CallH P w K mg base k x n sp) (hk : k ≤ j) : CallH P w K mg base j x n sp := by
  obtain ⟨f, fd, ps, F, h1, h2, h3, h4⟩ := C.ex
  exact ⟨f, fd, ps, ⟨F.len, fun A outer s H args us vs Q E p hr => F.run A outer s H args us vs Q E p (hr.mono hk)⟩, h1, h2, h3, h4⟩
theorem CallH.cal {sp : ZSp} (C : CallH P w K mg base k x n sp) : CalOk false P w K mg base k x n [] sp := ⟨fun z => Bool.noConfusion z, fun _ => ⟨rfl, C⟩⟩
theorem CallOk.up {ks : List Str} {sp : ZSp} (C : CallOk P w K mg base k x n ks sp) (hk : k ≤ j) : CallOk P w K mg base j x n ks sp := by
  rcases C.ex with h | ⟨fl, e, ⟨C, fI, fd, ps, i, h1, h2, h3, h4⟩⟩ | ⟨f, fd, ps, sp0, hn, F, h1, h2, h3⟩
  · exact ⟨.inl h⟩
  · exact ⟨.inr (.inl ⟨fl, e, ⟨C, fI, fd, ps, i, h1, h2, Nat.le_trans h3 hk, h4⟩⟩)⟩
  · exact ⟨.inr (.inr ⟨f, fd, ps, sp0, hn, F.mono hk, h1, h2, h3⟩)⟩
theorem CallOk.gcd (X : K.In h) (G : h.Ns mainGlobals mg) (a : PySem.W.nsIn K mainGlobals x = some (some (.builtin "math.gcd"))) : CallOk P w K mg base k x n [] sp_gcd := ⟨.inl ⟨rfl, PySem.W.mg_of X G a, rfl⟩⟩
theorem ExcAt.call {fl : List Str} (E : ExcAt P w K mg base k x fl) (hk : k ≤ j) : CallOk P w K mg base j x 0 (excMark :: fl) sp_gcd := by
  obtain ⟨C, fI, fd, ps, i, h1, h2, h3, h4⟩ := E.ex
  exact ⟨.inr (.inl ⟨fl, rfl, ⟨C, fI, fd, ps, i, h1, h2, Nat.le_trans h3 hk, h4⟩⟩)⟩
/-- an error of the class at S is what «except S» names -/
theorem exm_self {S : Addr} (h1 : PySem.W.subIn K (.ref S) (.type "BaseException") = some true) (h2 : PySem.W.isClsIn K S = true) (h3 : PySem.W.typeIn K (.ref S) = some (.type "type")) (h4 : PySem.W.subIn K (.ref S) (.ref S) = some true) :
    PySem.W.exmOne K (.ref S) (.ref S) = some true := by
  have e1 : (PySem.W.subIn K (.ref S) (.type "BaseException") == some true) = true := by rw [h1] <;> rfl
  have e2 : ((PySem.W.clsIn K S).isSome && PySem.W.typeIn K (.ref S) == some (.type "type")) = true := by
    have h2' : (PySem.W.clsIn K S).isSome = true := h2
    rw [h2', h3] <;> rfl
  show (if (PySem.W.subIn K (.ref S) (.type "BaseException") == some true) = true then (if ((PySem.W.clsIn K S).isSome && PySem.W.typeIn K (.ref S) == some (.type "type")) = true then PySem.W.subIn K (.ref S) (.ref S) else none) else none) = some true
  rw [if_pos e1, if_pos e2]
  exact h4
/-- the j-th line of the class at the top's line s -/
def inClass (s : Stmt) (j : Nat) : Stmt := match s with
  | .ClassDef _ _ _ b _ _ _ _ _ _ _ => b.getD j (.Pass ⟨0, 0, 0, 0⟩)
  | _ => .Pass ⟨0, 0, 0, 0⟩
theorem fscope_of {N ps : List Str} {sc : Scope} (h : scB N ps sc = true) : FnScope N ps sc := scB_of h
/-- the same def, called by its parameters' names -/
def spPerm (m : Nat) (perm : List Nat) (sp : ZSp) : ZSp := fun ys M Q E => ys.length = m ∧ sp (perm.map (ys.getD · .non)) M Q E
theorem CallOk.ofK {ks : List Str} {perm : List Nat} (D : DefAt K x st ps f) (X : K.In h) (G : h.Ns mainGlobals mg) (dk : DefOk st N ps bn s) (hbn : ∀ y ∈ bn, mg y = none) (hne : ks ≠ []) (hnx : ks.head? ≠ some excMark) (hp : perm.length = ps.length)
    (hb : ∀ (kV doc pm : Value) (an : Option Addr) (cdv ct : Value) (ws : List Value), ws.length = ks.length → bindArgs (PySem.W.fnOf x x (L2.defArgs st) (L2.defBody st) (L2.defScope st) .none kV doc pm an cdv ct) ⟨[], ks.zip ws⟩ = pure (ps.zip (perm.map (ws.getD · .none))))
    (hok : okS (true = true) (fun x n ks sp => CalOk true P w K mg base k x n ks sp) (fun x n ks sp => CalOk false P w K mg base k x n ks sp) (fun x v => GlOk K mg x v) s) (hm : MeetsO N.length ps.length (wpS s) ms) : CallOk P w K mg base (k + 1) x n ks (spPerm ks.length perm ms) := by
  obtain ⟨fd, F, B⟩ := D.fd
  have F2 := def_ok F dk hbn hok hm
  obtain ⟨oc, od, kV, doc, pm, an, cdv, ct, osl, rfl, lk, hcd⟩ := F.ex
  exact .mk <| .inr <| .inr ⟨f, _, ps, ms, hnx, F2, PySem.W.mg_of X G D.ns, D.kp, .inr ⟨hne, perm, ⟨hp, fun s ws _ hl => .of_eq (hb kV doc pm an cdv ct ws hl)⟩, fun ys M Q E q => q⟩⟩
/-- what is asked of a law's def, whatever its names -/
def spTop (K : PySem.W.Frag) : Sp := fun vs H Q E => ∃ (a : Addr) (ns : List Int), vs = [.ref a] ∧ SqF K H a (ns.map V.int) ∧ ∀ v H', v = V.bl true → Q v H'
def isLaw (ms : ZSp) : Prop := ∀ (ns : List Int) (Q : ZQ) (E : ZX), (∀ M, Q (.bl true) M) → ms [.fl (ns.map PV.int)] (fun _ => none) Q E
theorem top_imp (hms : isLaw ms) (vs : List V) (H : Hp) (Q : VK) (E : XK) (q : spTop K vs H Q E) : toSp K mg ms vs H Q E := by
  obtain ⟨a, ns, rfl, hS, hq⟩ := q
  refine ⟨fun _ => none, [.fl (ns.map PV.int)], fun _ => none, fun r _ => r = .bl true, fun _ _ _ => False, Rs.one ⟨a, _, rfl, hS, Rs.int ns⟩, ⟨fun _ _ e => (nomatch e), fun _ _ _ e => (nomatch e), fun _ _ e => (nomatch e)⟩, hms ns _ _ fun _ => rfl, ?_, fun _ _ _ _ _ _ _ _ _ e => e.elim⟩
  intro v H' x M' l sm r e
  subst e
  exact hq v H' r
theorem sqF_of {H : Hp} {a : Addr} {xs : List V} (hO : Only H) (h : SqL K H a xs) : SqF K H a xs := by
  rcases h with (h | h) | h
  · rcases hO a with z | ⟨o, ys, z⟩
    · rw [z] at h; cases h
    · rw [z] at h; cases h
  · exact .inl h
  · exact .inr h
theorem law_ok {fd : FuncData} (F : L2.Fun K x x st f fd) (dk : DefOk st N ps bn s) (hbn : ∀ y ∈ bn, mg y = none)
    (hok : okS (true = true) (fun x n ks sp => CalOk true P w K mg base k x n ks sp) (fun x n ks sp => CalOk false P w K mg base k x n ks sp) (fun x v => GlOk K mg x v) s) (hm : MeetsO N.length ps.length (wpS s) ms) (hms : isLaw ms) : FnOk P w K mg base (L2N.CX P w) (k + 1) f fd ps (spTop K) :=
  (def_ok F dk hbn hok hm).imp fun vs H Q E q => top_imp hms vs H Q E q
/-- the same, with what is known of the script's length -/
def spTopL (K : PySem.W.Frag) : Sp := fun vs H Q E => ∃ (a : Addr) (ns : List Int), vs = [.ref a] ∧ SqF K H a (ns.map V.int) ∧ ns.length ≤ 63 ∧ ∀ v H', v = V.bl true → Q v H'
def isLawL (ms : ZSp) : Prop := ∀ (ns : List Int) (Q : ZQ) (E : ZX), ns.length ≤ 63 → (∀ M, Q (.bl true) M) → ms [.fl (ns.map PV.int)] (fun _ => none) Q E
theorem top_impL (hms : isLawL ms) (vs : List V) (H : Hp) (Q : VK) (E : XK) (q : spTopL K vs H Q E) : toSp K mg ms vs H Q E := by
  obtain ⟨a, ns, rfl, hS, hl, hq⟩ := q
  refine ⟨fun _ => none, [.fl (ns.map PV.int)], fun _ => none, fun r _ => r = .bl true, fun _ _ _ => False, Rs.one ⟨a, _, rfl, hS, Rs.int ns⟩, ⟨fun _ _ e => (nomatch e), fun _ _ _ e => (nomatch e), fun _ _ e => (nomatch e)⟩, hms ns _ _ hl fun _ => rfl, ?_, fun _ _ _ _ _ _ _ _ _ e => e.elim⟩
  intro v H' x M' l sm r e
  subst e
  exact hq v H' r
theorem law_okL {fd : FuncData} (F : L2.Fun K x x st f fd) (dk : DefOk st N ps bn s) (hbn : ∀ y ∈ bn, mg y = none)
    (hok : okS (true = true) (fun x n ks sp => CalOk true P w K mg base k x n ks sp) (fun x n ks sp => CalOk false P w K mg base k x n ks sp) (fun x v => GlOk K mg x v) s) (hm : MeetsO N.length ps.length (wpS s) ms) (hms : isLawL ms) : FnOk P w K mg base (L2N.CX P w) (k + 1) f fd ps (spTopL K) :=
  (def_ok F dk hbn hok hm).imp fun vs H Q E q => top_impL hms vs H Q E q
end
end Zd

set_option Elab.async false
set_option linter.all false
set_option maxRecDepth 100000
set_option maxHeartbeats 8000000
/-! Y 1: the plain law of tables: bits, what is outside, least above. -/
namespace Zd
open PySem
open PyProof.Rows (bitAnd_m1 bitXor_and bitOr_and bitAnd_comm)
open PySem.W (kbt_low os_band)
open Builtin.Int (intBits)

/-! bits -/
theorem tb_div (l s : Nat) : l.testBit s = decide (l / 2 ^ s % 2 = 1) := by
  rw [Nat.testBit_eq_decide_div_mod_eq]
theorem bit_int (l s : Nat) : Builtin.bitAnd ((l : Int) / 2 ^ s) 1 = if l.testBit s = true then 1 else 0 := by
  rw [bitAnd_m1, tb_div]
  have e : ((l : Int) / 2 ^ s) % 2 = ((l / 2 ^ s % 2 : Nat) : Int) := by
    rw [Int.natCast_emod, Int.natCast_ediv]; simp
  rw [e]
  have h := Nat.mod_lt (l / 2 ^ s) (show 2 > 0 by decide)
  by_cases hb : l / 2 ^ s % 2 = 1
  · simp [hb]
  · have : l / 2 ^ s % 2 = 0 := by omega
    simp [this]
theorem and_pow (l k : Nat) : l &&& 2 ^ k = if l.testBit k = true then 2 ^ k else 0 := by
  apply Nat.eq_of_testBit_eq
  intro s
  rw [Nat.testBit_and, Nat.testBit_two_pow]
  by_cases hs : k = s
  · subst hs
    cases h : l.testBit k <;> simp
  · have : decide (k = s) = false := decide_eq_false hs
    rw [this, Bool.and_false]
    cases l.testBit k
    · simp
    · simp [Nat.testBit_two_pow, hs]
theorem low_form : ∀ l : Nat, 0 < l → ∃ v m, l = 2 ^ v * (2 * m + 1)
  | l, h => by
    by_cases h2 : l % 2 = 1
    · exact ⟨0, l / 2, by omega⟩
    · obtain ⟨v, m, e⟩ := low_form (l / 2) (by omega)
      refine ⟨v + 1, m, ?_⟩
      have : l = 2 * (l / 2) := by omega
      rw [this, e, Nat.pow_succ, Nat.mul_comm (2 ^ v) 2, Nat.mul_assoc]
termination_by l => l
theorem low_and (v m : Nat) : Builtin.bitAnd ((2 ^ v * (2 * m + 1) : Nat) : Int) (-((2 ^ v * (2 * m + 1) : Nat) : Int)) = ((2 ^ v : Nat) : Int) := by
  have := kbt_low v (m : Int)
  have e : ((2 ^ v * (2 * m + 1) : Nat) : Int) = 2 ^ v * (2 * (m : Int) + 1) := by
    rw [Int.natCast_mul, Int.natCast_add, Int.natCast_mul, Int.natCast_pow]; rfl
  rw [e, this, Int.natCast_pow]; rfl
theorem bits_pow (v : Nat) : Builtin.Int.intBits ((2 ^ v : Nat) : Int) = v + 1 := by
  have h1 := (intBits_le_iff (m := v + 1) (x := ((2 ^ v : Nat) : Int))).mpr (by
    show 2 ^ v < 2 ^ (v + 1)
    rw [Nat.pow_succ]; have := Nat.two_pow_pos v; omega)
  have h2 : ¬ Builtin.Int.intBits ((2 ^ v : Nat) : Int) ≤ v := fun h => by
    have : 2 ^ v < 2 ^ v := intBits_le_iff.mp h
    omega
  omega
theorem low_test (v m s : Nat) : (2 ^ v * (2 * m + 1)).testBit s = ((2 ^ v * (2 * m)).testBit s || decide (s = v)) := by
  rw [Nat.testBit_two_pow_mul, Nat.testBit_two_pow_mul]
  by_cases h : v ≤ s
  · simp only [h, decide_true, Bool.true_and]
    by_cases h2 : s = v
    · subst h2
      simp
    · obtain ⟨d, rfl⟩ : ∃ d, s = v + d + 1 := ⟨s - v - 1, by omega⟩
      have e1 : v + d + 1 - v = d + 1 := by omega
      rw [e1, Nat.testBit_succ, Nat.testBit_succ]
      have a1 : (2 * m + 1) / 2 = m := by omega
      have a2 : 2 * m / 2 = m := by omega
      rw [a1, a2]
      simp [h2]
  · have : ¬ s = v := by omega
    simp [h, this]
theorem low_off (v m : Nat) : (2 ^ v * (2 * m)).testBit v = false := by
  rw [Nat.testBit_two_pow_mul]
  simp
/-- a bit taken away -/
theorem sub_bit {l k : Nat} (h : l.testBit k = true) : 2 ^ k ≤ l ∧ ∀ s, (l - 2 ^ k).testBit s = (l.testBit s && !decide (s = k)) := by
  have e : l &&& 2 ^ k = 2 ^ k := by
    rw [and_pow, h]; simp
  have hle : 2 ^ k ≤ l := Nat.ge_two_pow_of_testBit h
  refine ⟨hle, fun s => ?_⟩
  have e2 : l - 2 ^ k = l ^^^ 2 ^ k := by
    have h3 : (l ^^^ 2 ^ k) + 2 ^ k = l := by
      have a := bitXor_and (l : Int) ((2 ^ k : Nat) : Int)
      have b : Builtin.bitAnd (l : Int) ((2 ^ k : Nat) : Int) = ((2 ^ k : Nat) : Int) := by rw [os_band, e]
      have c : Builtin.bitXor (l : Int) ((2 ^ k : Nat) : Int) = ((l ^^^ 2 ^ k : Nat) : Int) := by
        rw [Bits.bitXor_pp (by omega) (by omega)]; rfl
      rw [b, c] at a
      omega
    omega
  rw [e2, Nat.testBit_xor, Nat.testBit_two_pow]
  by_cases hs : s = k
  · subst hs; simp [h]
  · have : ¬ k = s := fun z => hs z.symm
    simp [hs, this]
theorem add_bit {l k : Nat} (h : l.testBit k = false) : ∀ s, (l + 2 ^ k).testBit s = (l.testBit s || decide (s = k)) := by
  intro s
  have h1 : (l + 2 ^ k).testBit k = true := by rw [Nat.add_comm, Nat.testBit_two_pow_add_eq, h]; rfl
  have h2 := (sub_bit h1).2 s
  rw [Nat.add_sub_cancel] at h2
  rw [h2]
  by_cases hs : s = k
  · subst hs; simp [h1]
  · simp [hs]
theorem or_bit {l k : Nat} (h : l.testBit k = false) : Builtin.bitOr (l : Int) ((2 ^ k : Nat) : Int) = ((l + 2 ^ k : Nat) : Int) := by
  rw [bitOr_and, os_band, and_pow, h]
  simp
theorem and_bit (l k : Nat) : Builtin.bitAnd (l : Int) ((2 ^ k : Nat) : Int) = if l.testBit k = true then ((2 ^ k : Nat) : Int) else 0 := by
  rw [os_band, and_pow]
  cases l.testBit k <;> simp
theorem os_and (a b : Nat) : Builtin.bitAnd (a : Int) (b : Int) = ((a &&& b : Nat) : Int) := os_band a b
end Zd

set_option Elab.async false
set_option linter.all false
set_option maxRecDepth 100000
set_option maxHeartbeats 8000000
/-! Y 2: tables as functions of the lot; the step's law. -/
namespace Zd
open PySem

/-- a table of n numbers -/
def tab (n : Nat) (f : Nat → Int) : List PV := (List.range n).map fun l => PV.int (f l)
theorem tab_len {n : Nat} {f : Nat → Int} : (tab n f).length = n := by unfold tab; simp
theorem tab_get {n : Nat} {f : Nat → Int} {l : Nat} (h : l < n) : (tab n f)[l]? = some (.int (f l)) := by
  unfold tab
  rw [List.getElem?_map, List.getElem?_range h]; rfl
theorem tab_congr {n : Nat} {f g : Nat → Int} (h : ∀ l, l < n → f l = g l) : tab n f = tab n g := by
  unfold tab
  refine List.map_congr_left fun l hl => ?_
  rw [h l (List.mem_range.mp hl)]
theorem tab_set {n : Nat} {f : Nat → Int} {l : Nat} {x : Int} : (tab n f).set l (.int x) = tab n fun k => if k = l then x else f k := by
  apply List.ext_getElem?
  intro k
  by_cases hk : k < n
  · rw [tab_get hk]
    by_cases e : l = k
    · subst e
      rw [List.getElem?_set_self (by rw [tab_len]; exact hk), if_pos rfl]
    · rw [List.getElem?_set_ne e, tab_get hk, if_neg (fun z => e z.symm)]
  · rw [List.getElem?_eq_none (by rw [List.length_set, tab_len]; omega), List.getElem?_eq_none (by rw [tab_len]; omega)]
theorem tab_snoc {n : Nat} {f : Nat → Int} : tab n f ++ [.int (f n)] = tab (n + 1) f := by
  unfold tab
  rw [List.range_succ, List.map_append]; rfl
theorem tab_ints {n : Nat} {f : Nat → Int} : tab n f = ((List.range n).map f).map PV.int := by
  unfold tab
  rw [List.map_map]; rfl
theorem tab_at {n : Nat} {f : Nat → Int} {l : Nat} (h : l < n) : L2.atI (tab n f) (l : Int) = some (.int (f l)) := atI_ok (by omega) (by
  show (tab n f)[((l : Int)).toNat]? = _
  rw [Int.toNat_natCast]; exact tab_get h)
theorem ints_tab (ns : List Int) : ns.map PV.int = tab ns.length (fun l => ns.getD l 0) := by
  apply List.ext_getElem?
  intro k
  by_cases hk : k < ns.length
  · rw [tab_get hk, List.getElem?_map, List.getElem?_eq_getElem hk]
    simp [List.getD, hk]
  · rw [List.getElem?_eq_none (by rw [List.length_map]; omega), List.getElem?_eq_none (by rw [tab_len]; omega)]
/-! ### what is outside a lot -/
def outAt (fs : List (Int × Int)) (l : Nat) : Int := (fs.filterMap fun f => if f.1 < 0 ∨ l.testBit f.1.toNat = false then some f.2 else none).sum
def amt (fs : List (Int × Int)) (v : Int) : Int := (fs.filterMap fun f => if f.1 = v then some f.2 else none).sum
theorem out_zero (fs : List (Int × Int)) : outAt fs 0 = (fs.map (·.2)).sum := by
  unfold outAt
  induction fs with
  | nil => rfl
  | cons f r ih => rw [List.filterMap_cons]; simp at ih ⊢; try (rw [ih])
theorem out_low (fs : List (Int × Int)) {l l' v : Nat} (h : l'.testBit v = false) (h2 : ∀ s, l.testBit s = (l'.testBit s || decide (s = v))) : outAt fs l = outAt fs l' - amt fs v := by
  unfold outAt amt
  induction fs with
  | nil => rfl
  | cons f r ih =>
    rw [List.filterMap_cons, List.filterMap_cons, List.filterMap_cons]
    by_cases hn : f.1 < 0
    · have e1 : ¬ f.1 = (v : Int) := by omega
      rw [if_pos (.inl hn), if_pos (.inl hn), if_neg e1]
      simp only [List.sum_cons]
      omega
    · by_cases hv : f.1 = (v : Int)
      · have e1 : f.1.toNat = v := by omega
        have e2 := h2 v
        rw [decide_eq_true rfl, Bool.or_true] at e2
        rw [if_neg (fun z => z.elim hn fun z => by rw [e1, e2] at z; cases z), if_pos (.inr (by rw [e1]; exact h)), if_pos hv]
        simp only [List.sum_cons]
        omega
      · have e1 : ¬ f.1.toNat = v := by omega
        have e2 := h2 f.1.toNat
        rw [decide_eq_false e1, Bool.or_false] at e2
        rw [if_neg hv, e2]
        by_cases hb : l'.testBit f.1.toNat = false
        · rw [if_pos (.inr hb)]
          simp only [List.sum_cons]; omega
        · rw [if_neg (fun z => z.elim hn hb)]
          exact ih
/-- what the dict of the amounts tells -/
theorem val_app (ks : List (L2.Key × PV)) (k j : L2.Key) (y : PV) (h : valZ ks k = none) : valZ (ks ++ [(k, y)]) j = if k = j then some y else valZ ks j := by
  induction ks with
  | nil => show (if k = j then some y else none) = _; rfl
  | cons p r ih =>
    have hp : ¬ p.1 = k := fun z => by rw [valZ, if_pos z] at h; cases h
    have hr : valZ r k = none := by rw [valZ, if_neg hp] at h; exact h
    rw [List.cons_append, valZ, valZ, ih hr]
    by_cases e : p.1 = j
    · rw [if_pos e, if_pos e]
      by_cases e2 : k = j
      · exact absurd (e.trans e2.symm) hp
      · rw [if_neg e2]
    · rw [if_neg e, if_neg e]
def feedK (f : Int × Int) : L2.Key × PV := (.inl f.1, .int f.2)
theorem val_feeds (fs : List (Int × Int)) (nd : (fs.map (·.1)).Nodup) : ∀ (acc : List (L2.Key × PV)), (∀ f ∈ fs, valZ acc (.inl f.1) = none) → ∀ v : Int,
    ((valZ (fs.foldl (fun acc x => putZ acc (feedK x).1 (feedK x).2) acc) (.inl v)).getD (.int 0)) = if (valZ acc (.inl v)).isSome = true then (valZ acc (.inl v)).getD (.int 0) else .int (amt fs v) := by
  induction fs with
  | nil => intro acc _ v; rw [List.foldl_nil]; split
           · rfl
           · rename_i h; cases e : valZ acc (.inl v) with
             | none => rfl
             | some y => rw [e] at h; exact absurd rfl h
  | cons f r ih =>
    intro acc h v
    rw [List.map_cons, List.nodup_cons] at nd
    rw [List.foldl_cons]
    have hf := h f List.mem_cons_self
    have ep : putZ acc (feedK f).1 (feedK f).2 = acc ++ [(.inl f.1, .int f.2)] := by
      unfold putZ feedK; rw [hf]; rfl
    rw [ep]
    have hh : ∀ j : Int, valZ (acc ++ [(.inl f.1, .int f.2)]) (.inl j) = if f.1 = j then some (.int f.2) else valZ acc (.inl j) := fun j => by
      rw [val_app acc (.inl f.1) (.inl j) _ hf]
      by_cases e : f.1 = j
      · rw [if_pos e, if_pos (by rw [e])]
      · rw [if_neg e, if_neg (fun z => by injection z with z; exact e z)]
    rw [ih nd.2 _ (fun g hg => by
      rw [hh, if_neg (fun z => nd.1 (List.mem_map.mpr ⟨g, hg, z.symm⟩))]
      exact h g (List.mem_cons_of_mem _ hg)) v, hh]
    by_cases e : f.1 = v
    · rw [if_pos e]
      have hz : amt r v = 0 := by
        unfold amt
        have : r.filterMap (fun g => if g.1 = v then some g.2 else none) = [] := by
          rw [List.filterMap_eq_nil_iff]
          intro g hg
          rw [if_neg (fun z => nd.1 (List.mem_map.mpr ⟨g, hg, z.trans e.symm⟩))]
        rw [this]; rfl
      have hv : valZ acc (.inl v) = none := by rw [← e]; exact hf
      rw [hv]
      simp only [Option.isSome_some, if_true, Option.getD_some, Option.isSome_none, Bool.false_eq_true, if_false]
      unfold amt at hz ⊢
      rw [List.filterMap_cons]
      simp only [e, if_true, List.sum_cons, hz]
      congr 1; omega
    · rw [if_neg e]
      have : amt (f :: r) v = amt r v := by
        unfold amt; rw [List.filterMap_cons]; simp only [e, if_false]
      rw [this]
/-! ### least above -/
/-- o holds l, and is l from bit k on -/
def Sup (k o l : Nat) : Prop := (∀ s, l.testBit s = true → o.testBit s = true) ∧ ∀ s, k ≤ s → o.testBit s = l.testBit s
/-- f is, at each lot, the least of g over these -/
def Least (n k : Nat) (g f : Nat → Int) : Prop := ∀ l, l < n → (∃ o, o < n ∧ Sup k o l ∧ f l = g o) ∧ ∀ o, o < n → Sup k o l → f l ≤ g o
theorem least_zero (n : Nat) (g : Nat → Int) : Least n 0 g g := fun l hl => ⟨⟨l, hl, ⟨fun _ h => h, fun _ _ => rfl⟩, rfl⟩, fun o ho h => by
  have : o = l := Nat.eq_of_testBit_eq fun s => h.2 s (Nat.zero_le _)
  rw [this]; exact Int.le_refl _⟩
theorem lt_of_bits {b l : Nat} (h : ∀ s, b ≤ s → l.testBit s = false) : l < 2 ^ b := Nat.lt_pow_two_of_testBit l h
theorem bits_of_lt {b l s : Nat} (h : l < 2 ^ b) (hs : b ≤ s) : l.testBit s = false := Nat.testBit_lt_two_pow (Nat.lt_of_lt_of_le h (Nat.pow_le_pow_right (by decide) hs))
theorem add_lt {b l k : Nat} (hl : l < 2 ^ b) (hk : k < b) (h : l.testBit k = false) : l + 2 ^ k < 2 ^ b := lt_of_bits fun s hs => by
  rw [add_bit h, bits_of_lt hl hs, decide_eq_false (by omega)]; rfl
def stepUp (k : Nat) (f : Nat → Int) : Nat → Int := fun l => if l.testBit k = true then f l else min (f l) (f (l + 2 ^ k))
theorem least_step {b k : Nat} {g f : Nat → Int} (hk : k < b) (h : Least (2 ^ b) k g f) : Least (2 ^ b) (k + 1) g (stepUp k f) := fun l hl => by
  unfold stepUp
  by_cases hb : l.testBit k = true
  · rw [if_pos hb]
    obtain ⟨⟨o, ho, hs, e⟩, h2⟩ := h l hl
    refine ⟨⟨o, ho, ⟨hs.1, fun s h => hs.2 s (by omega)⟩, e⟩, fun o ho hs => h2 o ho ⟨hs.1, fun s h => ?_⟩⟩
    by_cases e : s = k
    · subst e; rw [hb, hs.1 _ hb]
    · exact hs.2 s (by omega)
  · rw [if_neg hb]
    have hb' : l.testBit k = false := by simpa using hb
    have hl2 := add_lt hl hk hb'
    have hbit := add_bit hb'
    obtain ⟨⟨o, ho, hs, e⟩, h2⟩ := h l hl
    obtain ⟨⟨o', ho', hs', e'⟩, h2'⟩ := h (l + 2 ^ k) hl2
    have hs1 : Sup (k + 1) o l := ⟨hs.1, fun s h => hs.2 s (by omega)⟩
    have hs2 : Sup (k + 1) o' l := ⟨fun s h => hs'.1 s (by rw [hbit, h]; rfl), fun s h => by rw [hs'.2 s (by omega), hbit, decide_eq_false (by omega), Bool.or_false]⟩
    refine ⟨?_, fun x hx hsx => ?_⟩
    · by_cases hm : f l ≤ f (l + 2 ^ k)
      · exact ⟨o, ho, hs1, by rw [Int.min_eq_left hm]; exact e⟩
      · exact ⟨o', ho', hs2, by rw [Int.min_eq_right (by omega)]; exact e'⟩
    · by_cases hxk : x.testBit k = true
      · have := h2' x hx ⟨fun s hs => by
          rw [hbit, Bool.or_eq_true, decide_eq_true_eq] at hs
          rcases hs with hs | hs
          · exact hsx.1 s hs
          · subst hs; exact hxk, fun s hs => by
          rw [hbit]
          by_cases e : s = k
          · subst e; rw [hxk]; simp
          · rw [hsx.2 s (by omega), decide_eq_false e, Bool.or_false]⟩
        omega
      · have := h2 x hx ⟨hsx.1, fun s hs => by
          by_cases e : s = k
          · subst e; rw [hb']; simpa using hxk
          · exact hsx.2 s (by omega)⟩
        omega
theorem and_sup {o l : Nat} : o &&& l = l ↔ ∀ s, l.testBit s = true → o.testBit s = true := by
  constructor
  · intro e s h
    have : (o &&& l).testBit s = true := by rw [e]; exact h
    rw [Nat.testBit_and, Bool.and_eq_true] at this
    exact this.1
  · intro h
    apply Nat.eq_of_testBit_eq
    intro s
    rw [Nat.testBit_and]
    cases e : l.testBit s
    · simp
    · rw [h s e]; rfl
/-- the least over all lots that hold l -/
def upMin (n : Nat) (g : Nat → Int) (l : Nat) : Int := minL (((List.range n).filter fun o => decide (o &&& l = l)).map g)
theorem up_ne {n l : Nat} {g : Nat → Int} (h : l < n) : ((List.range n).filter fun o => decide (o &&& l = l)).map g ≠ [] := fun z => by
  have : l ∈ (List.range n).filter fun o => decide (o &&& l = l) := List.mem_filter.mpr ⟨List.mem_range.mpr h, by simp⟩
  rw [List.map_eq_nil_iff] at z
  rw [z] at this
  cases this
theorem least_up {b : Nat} {g f : Nat → Int} (h : Least (2 ^ b) b g f) {l : Nat} (hl : l < 2 ^ b) : f l = upMin (2 ^ b) g l := by
  obtain ⟨⟨o, ho, hs, e⟩, h2⟩ := h l hl
  have m := minL_mem (up_ne (g := g) hl)
  rw [List.mem_map] at m
  obtain ⟨x, hx, ex⟩ := m
  rw [List.mem_filter, List.mem_range, decide_eq_true_eq] at hx
  have a1 : f l ≤ upMin (2 ^ b) g l := by
    unfold upMin
    rw [← ex]
    exact h2 x hx.1 ⟨and_sup.mp hx.2, fun s hs => by rw [bits_of_lt hx.1 hs, bits_of_lt hl hs]⟩
  have a2 : upMin (2 ^ b) g l ≤ g o := minL_le (List.mem_map.mpr ⟨o, List.mem_filter.mpr ⟨List.mem_range.mpr ho, by simpa using and_sup.mpr hs.1⟩, rfl⟩)
  omega
/-! ### a step -/
def worth (f : Nat → Int) (room : Int) (fs : List (Int × Int)) (l : Nat) : Int := f l + min room (outAt fs l)
def stepF (n box : Nat) (room : Int) (fs : List (Int × Int)) (f : Nat → Int) (l : Nat) : Int := if l.testBit box = true then upMin n (worth f room fs) (l - 2 ^ box) else f l
end Zd

set_option Elab.async false
set_option linter.all false
set_option maxRecDepth 100000
set_option maxHeartbeats 8000000
/-! Y 3: the program's tables. -/
namespace Zd
open PySem
open L2 (V HO Hp)
local macro_rules | `(tactic| walk_at "z") => `(tactic| simp only [↓s_nil, ↓s_seq, ↓s_pass, ↓s_brk, ↓s_cont, ↓s_expr, ↓s_ret, ↓s_retn, ↓s_ifs, ↓s_asg, ↓s_par, ↓s_aug, ↓s_fors, ↓s_raise, ↓s_try, ↓p_get0, ↓p_getS, ↓e_var, ↓e_int, ↓e_bl, ↓e_non, ↓e_str, ↓e_gl, ↓e_ty, ↓e_bin, ↓e_un, ↓e_cmp, ↓e_chn, ↓e_vand, ↓e_vor, ↓e_vnot, ↓e_ife, ↓e_tup, ↓e_lst, ↓e_ix, ↓e_sl, ↓e_call, ↓e_callK, ↓e_blt, ↓e_mth, w_own0, w_own, w_nil, w_cons, ↓e_lc, ↓e_lc2, ↓e_dc, ↓e_dget, ↓e_dnew, ↓e_mnd, ↓e_dget1, ↓e_lvals, ↓e_fmt, ↓e_js, ↓e_op1, ↓e_op2, ↓i_it1, ↓i_it2, ↓i_it3, ↓s_augx, ↓j_nil, ↓j_cons, ↓fmt_str, ↓fmt_int, ↓strO_str, ↓i_enum, ↓i_zip, ↓enum_t, ↓zip_tt, ↓a_nil, ↓a_cons, ↓o_none, ↓o_some, ↓o_int, ↓t_tt, ↓t_tv, ↓t_cmp, ↓t_chn, ↓t_and, ↓t_or, ↓t_not, ↓ta_one, ↓ta_cons, ↓to_one, ↓to_cons, ↓va_one, ↓va_cons, ↓vo_one, ↓vo_cons, ↓i_seq, ↓i_rng1, ↓i_rng2, ↓rng1_int, ↓rng2_int, ↓seq_tupE, ↓seq_strE, ↓g_nm, ↓g_tup, ↓g_ix, ↓gs_nil, ↓gs_cons, ↓tru_bl, ↓tru_non, ↓tru_int, ↓tru_tup, ↓isBl_bl, ↓b_add, ↓b_adds, ↓b_addt, ↓b_sub, ↓b_mul, ↓b_div, ↓b_mod, ↓b_pow, ↓b_shl, ↓b_shr, ↓b_and, ↓b_or, ↓b_xor, ↓u_neg, ↓u_inv, ↓c_eq, ↓c_eqs, ↓c_eqb, ↓c_ne, ↓c_nes, ↓c_neb, ↓c_lt, ↓c_le, ↓c_gt, ↓c_ge, ↓au_add, ↓au_sub, ↓f_lent, ↓f_lens, ↓f_abs, ↓f_int, ↓f_intb, ↓f_max, ↓f_min, ↓f_tupt, ↓f_listt, ↓f_isi_ii, ↓f_isi_ib, ↓f_isi_it, ↓f_isi_is, ↓f_isi_il, ↓f_isi_tt, ↓f_isi_ti, ↓f_isi_tb, ↓f_isi_ts, ↓f_isi_tl, ↓f_isi_bb, ↓f_isi_bi, ↓f_isi_ss, ↓f_isi_st, ↓f_isi_si, ↓f_isi_sb, ↓f_str, ↓x_tup0, ↓x_tup1, ↓x_tup2, ↓m_bits, ↓m_bits2, decide_eq_true_eq, Bool.true_and, Bool.and_true, Bool.not_true, Bool.not_false, Bool.false_eq_true, if_true, if_false, ite_true, ite_false, true_and, and_true, List.set_cons_zero, List.set_cons_succ, List.length_cons, List.length_nil, decide_true, decide_false, Bool.not_eq_true', decide_eq_false_iff_not, not_true_eq_false, not_false_eq_true, eq_self, reduceIte])
local macro_rules | `(tactic| walk_at "zh") => `(tactic| simp only [↓s_nil, ↓s_seq, ↓s_pass, ↓s_brk, ↓s_cont, ↓s_expr, ↓s_ret, ↓s_retn, ↓s_ifs, ↓s_asg, ↓s_par, ↓s_aug, ↓s_fors, ↓s_raise, ↓s_try, ↓p_get0, ↓p_getS, ↓e_var, ↓e_int, ↓e_bl, ↓e_non, ↓e_str, ↓e_gl, ↓e_ty, ↓e_bin, ↓e_un, ↓e_cmp, ↓e_chn, ↓e_vand, ↓e_vor, ↓e_vnot, ↓e_ife, ↓e_tup, ↓e_lst, ↓e_ix, ↓e_sl, ↓e_call, ↓e_callK, ↓e_blt, ↓e_mth, w_own0, w_own, w_nil, w_cons, ↓e_lc, ↓e_lc2, ↓e_dc, ↓e_dget, ↓e_dnew, ↓e_mnd, ↓e_dget1, ↓e_lvals, ↓e_fmt, ↓e_js, ↓e_op1, ↓e_op2, ↓i_it1, ↓i_it2, ↓i_it3, ↓s_augx, ↓j_nil, ↓j_cons, ↓fmt_str, ↓fmt_int, ↓strO_str, ↓i_enum, ↓i_zip, ↓enum_t, ↓zip_tt, ↓a_nil, ↓a_cons, ↓o_none, ↓o_some, ↓o_int, ↓t_tt, ↓t_tv, ↓t_cmp, ↓t_chn, ↓t_and, ↓t_or, ↓t_not, ↓ta_one, ↓ta_cons, ↓to_one, ↓to_cons, ↓va_one, ↓va_cons, ↓vo_one, ↓vo_cons, ↓i_seq, ↓i_rng1, ↓i_rng2, ↓rng1_int, ↓rng2_int, ↓seq_tupE, ↓seq_strE, ↓g_nm, ↓g_tup, ↓g_ix, ↓gs_nil, ↓gs_cons, ↓tru_bl, ↓tru_non, ↓tru_int, ↓tru_tup, ↓isBl_bl, ↓b_add, ↓b_adds, ↓b_addt, ↓b_sub, ↓b_mul, ↓b_div, ↓b_mod, ↓b_pow, ↓b_shl, ↓b_shr, ↓b_and, ↓b_or, ↓b_xor, ↓u_neg, ↓u_inv, ↓c_eq, ↓c_eqs, ↓c_eqb, ↓c_ne, ↓c_nes, ↓c_neb, ↓c_lt, ↓c_le, ↓c_gt, ↓c_ge, ↓au_add, ↓au_sub, ↓f_lent, ↓f_lens, ↓f_abs, ↓f_int, ↓f_intb, ↓f_max, ↓f_min, ↓f_tupt, ↓f_listt, ↓f_isi_ii, ↓f_isi_ib, ↓f_isi_it, ↓f_isi_is, ↓f_isi_il, ↓f_isi_tt, ↓f_isi_ti, ↓f_isi_tb, ↓f_isi_ts, ↓f_isi_tl, ↓f_isi_bb, ↓f_isi_bi, ↓f_isi_ss, ↓f_isi_st, ↓f_isi_si, ↓f_isi_sb, ↓f_str, ↓x_tup0, ↓x_tup1, ↓x_tup2, ↓m_bits, ↓m_bits2, decide_eq_true_eq, Bool.true_and, Bool.and_true, Bool.not_true, Bool.not_false, Bool.false_eq_true, if_true, if_false, ite_true, ite_false, true_and, and_true, List.set_cons_zero, List.set_cons_succ, List.length_cons, List.length_nil, decide_true, decide_false, Bool.not_eq_true', decide_eq_false_iff_not, not_true_eq_false, not_false_eq_true, eq_self, reduceIte, *])

def feedsP (fs : List (Int × Int)) : PV := .tup (fs.map fun f => .tup [.int f.1, .int f.2])
def stepP (box : Nat) (room : Int) (fs : List (Int × Int)) : PV := .tup [.int box, .int room, feedsP fs]
def FeedsOk (fs : List (Int × Int)) : Prop := (fs.map (·.1)).Nodup ∧ fs.length ≤ 1000
def sp_outside_sums : ZSp := fun xs M Q E => match xs with
  | [.tup ts, .int many] => ∃ fs n, (ts = (fs.map fun f : Int × Int => .tup [.int f.1, .int f.2]) ∧ many = (n : Nat) ∧ 1 ≤ n ∧ n ≤ 1048576 ∧ FeedsOk fs) ∧ allocL Q (tab n (outAt fs)) M
  | _ => False
/-! outside_sums : 0 feeds, 1 many, 2 amounts, 3 source, 4 amount, 5 sums, 6 lot, 7 low -/
def N_outside_sums : List Str := [Str.ofString "feeds", Str.ofString "many", Str.ofString "amounts", Str.ofString "source", Str.ofString "amount", Str.ofString "sums", Str.ofString "lot", Str.ofString "low"]
def ps_outside_sums : List Str := [Str.ofString "feeds", Str.ofString "many"]
def b_outside_sums : ZS :=
  (.seq (.asg (.nm 2) (.dc [(Str.ofString "source", 3), (Str.ofString "amount", 4)] (.tup 2 (.cons (.nm 3) (.cons (.nm 4) .nil))) (.seq (.var 0)) .tt (.var 3) (.var 4))) <|
  (.seq (.asg (.nm 5) (.lst (.cons (.blt .sum (.cons (.lc [(Str.ofString "source", 3), (Str.ofString "amount", 4)] (.tup 2 (.cons (.nm 3) (.cons (.nm 4) .nil))) (.seq (.var 0)) .tt (.var 4)) .nil)) .nil))) <|
  (.seq (.fors (.nm 6) (.rng2 (.int 1) (.var 1))
    (.seq (.asg (.nm 7) (.bin .BitAnd (.var 6) (.un .USub (.var 6)))) <|
    (.seq (.expr (.mth .append (.var 5) (.cons (.bin .Sub (.ix (.var 5) (.bin .Sub (.var 6) (.var 7))) (.dget (.var 2) (.bin .Sub (.mth .bits (.var 7) .nil) (.int 1)) (.int 0))) .nil))) <|
    .nil))) <|
  (.seq (.ret (.var 5)) <|
  .nil))))

theorem m_outside_sums : Meets 8 2 (wpS b_outside_sums) sp_outside_sums := by
  intro xs M Q E h
  unfold sp_outside_sums at h
  split at h
  · rename_i ts many
    obtain ⟨fs, n, ⟨rfl, rfl, h1, h2, nd, hlen⟩, hq⟩ := h
    refine ⟨rfl, ?_⟩
    show wpS b_outside_sums _ _ [some (.tup _), some (.int n), none, none, none, none, none, none] M
    unfold b_outside_sums
    walk_at "z"
    refine dc_by (fun f : Int × Int => .tup [.int f.1, .int f.2]) feedK (fun k => k.elim PV.int PV.str) (fun q => by cases q <;> rfl) fs [] trivial (by simp; unfold sizeLine; omega) (fun f hf k hk => ?_) ?_
    · walk_at "z"
      exact hk _ Fg.refl
    · intro a ha
      refine lc_map (fun f : Int × Int => .tup [.int f.1, .int f.2]) (fun f => .int f.2) fs [] trivial (by simp; unfold sizeLine; omega) (fun f hf k hk => ?_) ?_
      · walk_at "z"
        exact hk _ Fg.refl
      · intro q hq'
        rw [f_suml (ns := fs.map (·.2)) (by rw [lget_mu]; simp)]
        refine ⟨Nat.le_of_ble_eq_true rfl, fun p hp => ⟨⟨by unfold smallI; omega, by unfold smallI; omega⟩, ?_⟩⟩
        obtain ⟨hpq, hp⟩ := new_none hp
        obtain ⟨hpa, hp⟩ := new_none hp
        obtain ⟨hqa, hq'⟩ := new_none hq'
        have e0 : (fs.map (·.2)).sum = outAt fs 0 := (out_zero fs).symm
        rw [e0]
        refine for_rng (fun i τ M' => ∃ u v w x, τ = [some (.tup (fs.map fun f => .tup [.int f.1, .int f.2])), some (.int n), some (.ref a), u, v, some (.ref p), w, x] ∧ Fg M M' ∧ M' p = some (.lst (tab (i + 1) (outAt fs))) ∧ M' a = some (.dic (fs.foldl (fun acc x => putZ acc (feedK x).1 (feedK x).2) []))) _ 1 (fun _ => trivial) ?_ ?_ _ _ ⟨none, none, none, none, rfl, ?_, ?_, ?_⟩
        · rintro τ M' ⟨u, v, w, x, rfl, hf, hp', _⟩
          have e1 : ((n : Int) - 1).toNat + 1 = n := by omega
          rw [e1] at hp'
          exact dropQ_at hq hf hp hp'
        · intro i τ M' k hi hI hk
          obtain ⟨u, v, w, x, rfl, hf, hp', ha'⟩ := hI
          walk_at "z"
          have el : (1 + (i : Int)) = ((i + 1 : Nat) : Int) := by omega
          obtain ⟨b, m, eb⟩ := low_form (i + 1) (by omega)
          rw [el]
          have e2 : Builtin.bitAnd ((i + 1 : Nat) : Int) (-((i + 1 : Nat) : Int)) = ((2 ^ b : Nat) : Int) := by rw [eb]; exact low_and b m
          have e3 : ((i + 1 : Nat) : Int) - ((2 ^ b : Nat) : Int) = ((2 ^ b * (2 * m) : Nat) : Int) := by
            rw [eb, Nat.mul_add, Nat.mul_one]; omega
          have e4 : 2 ^ b * (2 * m) < i + 1 := by rw [eb, Nat.mul_add, Nat.mul_one]; have := Nat.two_pow_pos b; omega
          rw [e2, e3, bits_pow]
          refine ⟨by rw [m_lst (.inl rfl) (lget_of hp')]; trivial, ?_⟩
          rw [x_ref (lget_of hp') (tab_at e4)]
          have e5 : dicOf (.ref a) M' = some (fs.foldl (fun acc x => putZ acc (feedK x).1 (feedK x).2) []) := by show (match M' a with | some (.dic kvs) => some kvs | _ => none) = _; rw [ha']
          refine ⟨by rw [e5]; rfl, ?_⟩
          unfold dgetP
          rw [e5]
          have e6 : (((b + 1 : Nat) : Int) - 1) = (b : Int) := by omega
          refine ⟨_, rfl, ?_⟩
          show bin2 .Sub (.int _) ((valZ _ _).getD (.int 0)) M' _
          rw [e6, val_feeds fs nd [] (fun _ _ => rfl)]
          have e7 : outAt fs (2 ^ b * (2 * m)) - amt fs (b : Int) = outAt fs (i + 1) := by
            rw [eb, out_low fs (low_off b m) (low_test b m)]
          show bin2 .Sub (.int _) (.int (amt fs b)) M' _
          rw [b_sub, e7, m_app hp']
          refine ⟨by rw [tab_len]; unfold sizeLine; omega, hk _ _ _ Fg.refl ⟨_, _, _, _, rfl, fg_mu hf hp nohid_l, ?_, ?_⟩⟩
          · rw [mu_same, tab_snoc]
          · rw [mu_ne (Ne.symm hpa)]; exact ha'
        · exact fg_mu (fg_mu (fg_mu Fg.refl ha nohid_d) hq' nohid_l) hp nohid_l
        · rw [mu_same]; rfl
        · rw [mu_ne (Ne.symm hpa), mu_ne (Ne.symm hqa), mu_same]
  · exact h.elim
end Zd

set_option Elab.async false
set_option linter.all false
set_option maxRecDepth 100000
set_option maxHeartbeats 8000000
/-! Y 4: the program's tables, on. -/
namespace Zd
open PySem
open L2 (V HO Hp)
local macro_rules | `(tactic| walk_at "z") => `(tactic| simp only [↓s_nil, ↓s_seq, ↓s_pass, ↓s_brk, ↓s_cont, ↓s_expr, ↓s_ret, ↓s_retn, ↓s_ifs, ↓s_asg, ↓s_par, ↓s_aug, ↓s_fors, ↓s_raise, ↓s_try, ↓p_get0, ↓p_getS, ↓e_var, ↓e_int, ↓e_bl, ↓e_non, ↓e_str, ↓e_gl, ↓e_ty, ↓e_bin, ↓e_un, ↓e_cmp, ↓e_chn, ↓e_vand, ↓e_vor, ↓e_vnot, ↓e_ife, ↓e_tup, ↓e_lst, ↓e_ix, ↓e_sl, ↓e_call, ↓e_callK, ↓e_blt, ↓e_mth, w_own0, w_own, w_nil, w_cons, ↓e_lc, ↓e_lc2, ↓e_dc, ↓e_dget, ↓e_dnew, ↓e_mnd, ↓e_dget1, ↓e_lvals, ↓e_fmt, ↓e_js, ↓e_op1, ↓e_op2, ↓i_it1, ↓i_it2, ↓i_it3, ↓s_augx, ↓j_nil, ↓j_cons, ↓fmt_str, ↓fmt_int, ↓strO_str, ↓i_enum, ↓i_zip, ↓enum_t, ↓zip_tt, ↓a_nil, ↓a_cons, ↓o_none, ↓o_some, ↓o_int, ↓t_tt, ↓t_tv, ↓t_cmp, ↓t_chn, ↓t_and, ↓t_or, ↓t_not, ↓ta_one, ↓ta_cons, ↓to_one, ↓to_cons, ↓va_one, ↓va_cons, ↓vo_one, ↓vo_cons, ↓i_seq, ↓i_rng1, ↓i_rng2, ↓rng1_int, ↓rng2_int, ↓seq_tupE, ↓seq_strE, ↓g_nm, ↓g_tup, ↓g_ix, ↓gs_nil, ↓gs_cons, ↓tru_bl, ↓tru_non, ↓tru_int, ↓tru_tup, ↓isBl_bl, ↓b_add, ↓b_adds, ↓b_addt, ↓b_sub, ↓b_mul, ↓b_div, ↓b_mod, ↓b_pow, ↓b_shl, ↓b_shr, ↓b_and, ↓b_or, ↓b_xor, ↓u_neg, ↓u_inv, ↓c_eq, ↓c_eqs, ↓c_eqb, ↓c_ne, ↓c_nes, ↓c_neb, ↓c_lt, ↓c_le, ↓c_gt, ↓c_ge, ↓au_add, ↓au_sub, ↓f_lent, ↓f_lens, ↓f_abs, ↓f_int, ↓f_intb, ↓f_max, ↓f_min, ↓f_tupt, ↓f_listt, ↓f_isi_ii, ↓f_isi_ib, ↓f_isi_it, ↓f_isi_is, ↓f_isi_il, ↓f_isi_tt, ↓f_isi_ti, ↓f_isi_tb, ↓f_isi_ts, ↓f_isi_tl, ↓f_isi_bb, ↓f_isi_bi, ↓f_isi_ss, ↓f_isi_st, ↓f_isi_si, ↓f_isi_sb, ↓f_str, ↓x_tup0, ↓x_tup1, ↓x_tup2, ↓m_bits, ↓m_bits2, decide_eq_true_eq, Bool.true_and, Bool.and_true, Bool.not_true, Bool.not_false, Bool.false_eq_true, if_true, if_false, ite_true, ite_false, true_and, and_true, List.set_cons_zero, List.set_cons_succ, List.length_cons, List.length_nil, decide_true, decide_false, Bool.not_eq_true', decide_eq_false_iff_not, not_true_eq_false, not_false_eq_true, eq_self, reduceIte])
local macro_rules | `(tactic| walk_at "zh") => `(tactic| simp only [↓s_nil, ↓s_seq, ↓s_pass, ↓s_brk, ↓s_cont, ↓s_expr, ↓s_ret, ↓s_retn, ↓s_ifs, ↓s_asg, ↓s_par, ↓s_aug, ↓s_fors, ↓s_raise, ↓s_try, ↓p_get0, ↓p_getS, ↓e_var, ↓e_int, ↓e_bl, ↓e_non, ↓e_str, ↓e_gl, ↓e_ty, ↓e_bin, ↓e_un, ↓e_cmp, ↓e_chn, ↓e_vand, ↓e_vor, ↓e_vnot, ↓e_ife, ↓e_tup, ↓e_lst, ↓e_ix, ↓e_sl, ↓e_call, ↓e_callK, ↓e_blt, ↓e_mth, w_own0, w_own, w_nil, w_cons, ↓e_lc, ↓e_lc2, ↓e_dc, ↓e_dget, ↓e_dnew, ↓e_mnd, ↓e_dget1, ↓e_lvals, ↓e_fmt, ↓e_js, ↓e_op1, ↓e_op2, ↓i_it1, ↓i_it2, ↓i_it3, ↓s_augx, ↓j_nil, ↓j_cons, ↓fmt_str, ↓fmt_int, ↓strO_str, ↓i_enum, ↓i_zip, ↓enum_t, ↓zip_tt, ↓a_nil, ↓a_cons, ↓o_none, ↓o_some, ↓o_int, ↓t_tt, ↓t_tv, ↓t_cmp, ↓t_chn, ↓t_and, ↓t_or, ↓t_not, ↓ta_one, ↓ta_cons, ↓to_one, ↓to_cons, ↓va_one, ↓va_cons, ↓vo_one, ↓vo_cons, ↓i_seq, ↓i_rng1, ↓i_rng2, ↓rng1_int, ↓rng2_int, ↓seq_tupE, ↓seq_strE, ↓g_nm, ↓g_tup, ↓g_ix, ↓gs_nil, ↓gs_cons, ↓tru_bl, ↓tru_non, ↓tru_int, ↓tru_tup, ↓isBl_bl, ↓b_add, ↓b_adds, ↓b_addt, ↓b_sub, ↓b_mul, ↓b_div, ↓b_mod, ↓b_pow, ↓b_shl, ↓b_shr, ↓b_and, ↓b_or, ↓b_xor, ↓u_neg, ↓u_inv, ↓c_eq, ↓c_eqs, ↓c_eqb, ↓c_ne, ↓c_nes, ↓c_neb, ↓c_lt, ↓c_le, ↓c_gt, ↓c_ge, ↓au_add, ↓au_sub, ↓f_lent, ↓f_lens, ↓f_abs, ↓f_int, ↓f_intb, ↓f_max, ↓f_min, ↓f_tupt, ↓f_listt, ↓f_isi_ii, ↓f_isi_ib, ↓f_isi_it, ↓f_isi_is, ↓f_isi_il, ↓f_isi_tt, ↓f_isi_ti, ↓f_isi_tb, ↓f_isi_ts, ↓f_isi_tl, ↓f_isi_bb, ↓f_isi_bi, ↓f_isi_ss, ↓f_isi_st, ↓f_isi_si, ↓f_isi_sb, ↓f_str, ↓x_tup0, ↓x_tup1, ↓x_tup2, ↓m_bits, ↓m_bits2, decide_eq_true_eq, Bool.true_and, Bool.and_true, Bool.not_true, Bool.not_false, Bool.false_eq_true, if_true, if_false, ite_true, ite_false, true_and, and_true, List.set_cons_zero, List.set_cons_succ, List.length_cons, List.length_nil, decide_true, decide_false, Bool.not_eq_true', decide_eq_false_iff_not, not_true_eq_false, not_false_eq_true, eq_self, reduceIte, *])

def sp_least_above : ZSp := fun xs M Q E => match xs with
  | [.ref p] => ∃ b g, (M p = some (.lst (tab (2 ^ b) g)) ∧ b ≤ 20) ∧ Q .non (mu M p (.lst (tab (2 ^ b) (upMin (2 ^ b) g))))
  | _ => False
/-! least_above : 0 numbers, 1 bit, 2 lot -/
def N_least_above : List Str := [Str.ofString "numbers", Str.ofString "bit", Str.ofString "lot"]
def ps_least_above : List Str := [Str.ofString "numbers"]
def b_least_above : ZS :=
  (.seq (.asg (.nm 1) (.int 1)) <|
  (.seq (.whiles (.cmp .Lt (.var 1) (.blt .len (.cons (.var 0) .nil)))
    (.seq (.fors (.nm 2) (.rng1 (.blt .len (.cons (.var 0) .nil)))
      (.seq (.ifs (.and (.cons (.not (.tv (.bin .BitAnd (.var 2) (.var 1)))) (.one (.cmp .Lt (.ix (.var 0) (.bin .BitOr (.var 2) (.var 1))) (.ix (.var 0) (.var 2))))))
        (.seq (.asg (.ix (.var 0) (.var 2)) (.ix (.var 0) (.bin .BitOr (.var 2) (.var 1)))) <|
        .nil)
        .nil) <|
      .nil)) <|
    (.seq (.asg (.nm 1) (.bin .LShift (.var 1) (.int 1))) <|
    .nil))) <|
  .nil))

theorem m_least_above : Meets 3 1 (wpS b_least_above) sp_least_above := by
  intro xs M Q E h
  unfold sp_least_above at h
  split at h
  · rename_i p
    obtain ⟨b, g, ⟨hp, hb⟩, hq⟩ := h
    have hb2 : 2 ^ b ≤ 1048576 := Nat.pow_le_pow_right (n := 2) (by decide) hb
    refine ⟨rfl, ?_⟩
    show wpS b_least_above _ _ [some (.ref p), none, none] M
    unfold b_least_above
    walk_at "z"
    refine while_by (fun m τ M' => ∃ k f u, τ = [some (.ref p), some (.int ((2 ^ k : Nat) : Int)), u] ∧ M' = mu M p (.lst (tab (2 ^ b) f)) ∧ Least (2 ^ b) k g f ∧ k ≤ b ∧ m = b - k) b ⟨0, g, none, rfl, ?_, least_zero _ _, Nat.zero_le _, rfl⟩ ?_
    · funext a
      by_cases h : a = p
      · subst h; rw [mu_same, hp]
      · rw [mu_ne h]
    · rintro m τ M' ⟨k, f, u, rfl, rfl, hl, hk, rfl⟩
      walk_at "z"
      rw [f_lenr lget_mu]
      walk_at "z"
      rw [tab_len]
      by_cases hkb : ((2 ^ k : Nat) : Int) < ((2 ^ b : Nat) : Int)
      · have hkb' : k < b := by
          have : 2 ^ k < 2 ^ b := by omega
          exact (Nat.pow_lt_pow_iff_right (by decide)).mp this
        rw [if_pos hkb, f_lenr lget_mu, rng1_int, tab_len]
        refine ⟨by have := Int.natCast_nonneg (2 ^ b); unfold smallI; omega, ?_⟩
        have e0 : (((2 ^ b : Nat) : Int)).toNat = 2 ^ b := Int.toNat_natCast _
        rw [e0]
        refine for_rng (fun i τ M' => ∃ u, τ = [some (.ref p), some (.int ((2 ^ k : Nat) : Int)), u] ∧ M' = mu M p (.lst (tab (2 ^ b) fun l => if l < i then stepUp k f l else f l))) _ 0 (fun _ => trivial) ?_ ?_ _ _ ⟨u, rfl, by simp⟩
        · rintro τ M' ⟨u, rfl, rfl⟩
          walk_at "z"
          refine ⟨⟨by omega, by omega, ?_⟩, _, Fg.refl, b - (k + 1), by omega, k + 1, _, u, ?_, rfl, ?_, by omega, rfl⟩
          · rw [Int.natAbs_natCast]; exact Nat.lt_of_lt_of_le (Nat.pow_lt_pow_right (by decide) hkb') (Nat.le_trans hb2 (by decide))
          · have e : ((2 ^ k : Nat) : Int) * 2 ^ (1 : Int).toNat = ((2 ^ (k + 1) : Nat) : Int) := by
              rw [Nat.pow_succ]; show ((2 ^ k : Nat) : Int) * 2 ^ 1 = _; omega
            rw [e]
          · intro l hl2
            have := least_step hkb' hl l hl2
            simp only [hl2, if_true]
            exact this
        · rintro i τ M' kk hi ⟨u, rfl, rfl⟩ hkk
          walk_at "z"
          simp only [Int.zero_add]
          rw [and_bit]
          have atl : ∀ l : Nat, l < 2 ^ b → L2.atI (tab (2 ^ b) fun l => if l < i then stepUp k f l else f l) (l : Int) = some (.int (if l < i then stepUp k f l else f l)) := fun l hl => tab_at (f := fun l => if l < i then stepUp k f l else f l) hl
          have same : ∀ x, (x = stepUp k f i) → (tab (2 ^ b) fun l => if l < i + 1 then stepUp k f l else f l) = tab (2 ^ b) fun l => if l = i then x else if l < i then stepUp k f l else f l := fun x hx => tab_congr fun l _ => by
            by_cases h1 : l = i
            · subst h1; rw [if_pos (by omega), if_pos rfl, hx]
            · by_cases h2 : l < i
              · rw [if_pos (by omega), if_neg h1, if_pos h2]
              · rw [if_neg (by omega), if_neg h1, if_neg h2]
          by_cases hbit : i.testBit k = true
          · rw [if_pos hbit]
            have h2 : ¬ (((2 ^ k : Nat) : Int) != 0) = false := by
              intro z
              rw [bne_eq_false_iff_eq] at z
              exact absurd (Int.natCast_eq_zero.mp z) (Nat.ne_of_gt (Nat.two_pow_pos k))
            rw [if_neg h2]
            refine hkk _ _ _ Fg.refl ⟨_, rfl, ?_⟩
            congr 2
            refine tab_congr fun l _ => ?_
            by_cases h1 : l = i
            · subst h1; rw [if_pos (show l < l + 1 by omega), if_neg (show ¬ l < l by omega)]; unfold stepUp; rw [if_pos hbit]
            · by_cases h2 : l < i
              · rw [if_pos (show l < i + 1 by omega), if_pos h2]
              · rw [if_neg (show ¬ l < i + 1 by omega), if_neg h2]
          · have hbit' : i.testBit k = false := by simpa using hbit
            have hlt := add_lt hi hkb' hbit'
            have hpos := Nat.two_pow_pos k
            rw [if_neg hbit, if_pos (show ((0 : Int) != 0) = false by decide), or_bit hbit', x_ref lget_mu (atl _ hlt), x_ref lget_mu (atl _ hi)]
            rw [if_neg (by omega), if_neg (by omega)]
            walk_at "z"
            by_cases hc : f (i + 2 ^ k) < f i
            · rw [if_pos hc, x_ref lget_mu (atl _ hlt), set_ok mu_same (by rw [tab_len]; exact ixN_ok (by omega) (by omega))]
              refine hkk _ _ _ Fg.refl ⟨_, rfl, ?_⟩
              rw [mu_mu]
              congr 2
              show List.set _ ((i : Int)).toNat _ = _
              rw [Int.toNat_natCast, tab_set, if_neg (by omega)]
              exact (same _ (by unfold stepUp; rw [if_neg hbit, Int.min_eq_right (by omega)])).symm
            · rw [if_neg hc]
              refine hkk _ _ _ Fg.refl ⟨_, rfl, ?_⟩
              congr 2
              rw [same (f i) (by unfold stepUp; rw [if_neg hbit, Int.min_eq_left (by omega)])]
              refine tab_congr fun l _ => ?_
              by_cases h1 : l = i
              · subst h1; rw [if_neg (by omega), if_pos rfl]
              · rw [if_neg h1]
      · rw [if_neg hkb]
        have ek : k = b := by
          by_cases h : k < b
          · have := Nat.pow_lt_pow_right (a := 2) (by decide) h; omega
          · omega
        subst ek
        refine dropQ_id ?_
        rw [tab_congr fun l hl2 => least_up hl hl2]
        exact hq
  · exact h.elim
end Zd

set_option Elab.async false
set_option linter.all false
set_option maxRecDepth 100000
set_option maxHeartbeats 8000000
/-! Y 5: the program's tables, on. -/
namespace Zd
open PySem
open L2 (V HO Hp)
local macro_rules | `(tactic| walk_at "z") => `(tactic| simp only [↓s_nil, ↓s_seq, ↓s_pass, ↓s_brk, ↓s_cont, ↓s_expr, ↓s_ret, ↓s_retn, ↓s_ifs, ↓s_asg, ↓s_par, ↓s_aug, ↓s_fors, ↓s_raise, ↓s_try, ↓p_get0, ↓p_getS, ↓e_var, ↓e_int, ↓e_bl, ↓e_non, ↓e_str, ↓e_gl, ↓e_ty, ↓e_bin, ↓e_un, ↓e_cmp, ↓e_chn, ↓e_vand, ↓e_vor, ↓e_vnot, ↓e_ife, ↓e_tup, ↓e_lst, ↓e_ix, ↓e_sl, ↓e_call, ↓e_callK, ↓e_blt, ↓e_mth, w_own0, w_own, w_nil, w_cons, ↓e_lc, ↓e_lc2, ↓e_dc, ↓e_dget, ↓e_dnew, ↓e_mnd, ↓e_dget1, ↓e_lvals, ↓e_fmt, ↓e_js, ↓e_op1, ↓e_op2, ↓i_it1, ↓i_it2, ↓i_it3, ↓s_augx, ↓j_nil, ↓j_cons, ↓fmt_str, ↓fmt_int, ↓strO_str, ↓i_enum, ↓i_zip, ↓enum_t, ↓zip_tt, ↓a_nil, ↓a_cons, ↓o_none, ↓o_some, ↓o_int, ↓t_tt, ↓t_tv, ↓t_cmp, ↓t_chn, ↓t_and, ↓t_or, ↓t_not, ↓ta_one, ↓ta_cons, ↓to_one, ↓to_cons, ↓va_one, ↓va_cons, ↓vo_one, ↓vo_cons, ↓i_seq, ↓i_rng1, ↓i_rng2, ↓rng1_int, ↓rng2_int, ↓seq_tupE, ↓seq_strE, ↓g_nm, ↓g_tup, ↓g_ix, ↓gs_nil, ↓gs_cons, ↓tru_bl, ↓tru_non, ↓tru_int, ↓tru_tup, ↓isBl_bl, ↓b_add, ↓b_adds, ↓b_addt, ↓b_sub, ↓b_mul, ↓b_div, ↓b_mod, ↓b_pow, ↓b_shl, ↓b_shr, ↓b_and, ↓b_or, ↓b_xor, ↓u_neg, ↓u_inv, ↓c_eq, ↓c_eqs, ↓c_eqb, ↓c_ne, ↓c_nes, ↓c_neb, ↓c_lt, ↓c_le, ↓c_gt, ↓c_ge, ↓au_add, ↓au_sub, ↓f_lent, ↓f_lens, ↓f_abs, ↓f_int, ↓f_intb, ↓f_max, ↓f_min, ↓f_tupt, ↓f_listt, ↓f_isi_ii, ↓f_isi_ib, ↓f_isi_it, ↓f_isi_is, ↓f_isi_il, ↓f_isi_tt, ↓f_isi_ti, ↓f_isi_tb, ↓f_isi_ts, ↓f_isi_tl, ↓f_isi_bb, ↓f_isi_bi, ↓f_isi_ss, ↓f_isi_st, ↓f_isi_si, ↓f_isi_sb, ↓f_str, ↓x_tup0, ↓x_tup1, ↓x_tup2, ↓m_bits, ↓m_bits2, decide_eq_true_eq, Bool.true_and, Bool.and_true, Bool.not_true, Bool.not_false, Bool.false_eq_true, if_true, if_false, ite_true, ite_false, true_and, and_true, List.set_cons_zero, List.set_cons_succ, List.length_cons, List.length_nil, decide_true, decide_false, Bool.not_eq_true', decide_eq_false_iff_not, not_true_eq_false, not_false_eq_true, eq_self, reduceIte])
local macro_rules | `(tactic| walk_at "zh") => `(tactic| simp only [↓s_nil, ↓s_seq, ↓s_pass, ↓s_brk, ↓s_cont, ↓s_expr, ↓s_ret, ↓s_retn, ↓s_ifs, ↓s_asg, ↓s_par, ↓s_aug, ↓s_fors, ↓s_raise, ↓s_try, ↓p_get0, ↓p_getS, ↓e_var, ↓e_int, ↓e_bl, ↓e_non, ↓e_str, ↓e_gl, ↓e_ty, ↓e_bin, ↓e_un, ↓e_cmp, ↓e_chn, ↓e_vand, ↓e_vor, ↓e_vnot, ↓e_ife, ↓e_tup, ↓e_lst, ↓e_ix, ↓e_sl, ↓e_call, ↓e_callK, ↓e_blt, ↓e_mth, w_own0, w_own, w_nil, w_cons, ↓e_lc, ↓e_lc2, ↓e_dc, ↓e_dget, ↓e_dnew, ↓e_mnd, ↓e_dget1, ↓e_lvals, ↓e_fmt, ↓e_js, ↓e_op1, ↓e_op2, ↓i_it1, ↓i_it2, ↓i_it3, ↓s_augx, ↓j_nil, ↓j_cons, ↓fmt_str, ↓fmt_int, ↓strO_str, ↓i_enum, ↓i_zip, ↓enum_t, ↓zip_tt, ↓a_nil, ↓a_cons, ↓o_none, ↓o_some, ↓o_int, ↓t_tt, ↓t_tv, ↓t_cmp, ↓t_chn, ↓t_and, ↓t_or, ↓t_not, ↓ta_one, ↓ta_cons, ↓to_one, ↓to_cons, ↓va_one, ↓va_cons, ↓vo_one, ↓vo_cons, ↓i_seq, ↓i_rng1, ↓i_rng2, ↓rng1_int, ↓rng2_int, ↓seq_tupE, ↓seq_strE, ↓g_nm, ↓g_tup, ↓g_ix, ↓gs_nil, ↓gs_cons, ↓tru_bl, ↓tru_non, ↓tru_int, ↓tru_tup, ↓isBl_bl, ↓b_add, ↓b_adds, ↓b_addt, ↓b_sub, ↓b_mul, ↓b_div, ↓b_mod, ↓b_pow, ↓b_shl, ↓b_shr, ↓b_and, ↓b_or, ↓b_xor, ↓u_neg, ↓u_inv, ↓c_eq, ↓c_eqs, ↓c_eqb, ↓c_ne, ↓c_nes, ↓c_neb, ↓c_lt, ↓c_le, ↓c_gt, ↓c_ge, ↓au_add, ↓au_sub, ↓f_lent, ↓f_lens, ↓f_abs, ↓f_int, ↓f_intb, ↓f_max, ↓f_min, ↓f_tupt, ↓f_listt, ↓f_isi_ii, ↓f_isi_ib, ↓f_isi_it, ↓f_isi_is, ↓f_isi_il, ↓f_isi_tt, ↓f_isi_ti, ↓f_isi_tb, ↓f_isi_ts, ↓f_isi_tl, ↓f_isi_bb, ↓f_isi_bi, ↓f_isi_ss, ↓f_isi_st, ↓f_isi_si, ↓f_isi_sb, ↓f_str, ↓x_tup0, ↓x_tup1, ↓x_tup2, ↓m_bits, ↓m_bits2, decide_eq_true_eq, Bool.true_and, Bool.and_true, Bool.not_true, Bool.not_false, Bool.false_eq_true, if_true, if_false, ite_true, ite_false, true_and, and_true, List.set_cons_zero, List.set_cons_succ, List.length_cons, List.length_nil, decide_true, decide_false, Bool.not_eq_true', decide_eq_false_iff_not, not_true_eq_false, not_false_eq_true, eq_self, reduceIte, *])

theorem zip_tab {n : Nat} {f g : Nat → Int} : zipL (tab n f) (tab n g) = (List.range n).map fun l => .tup [.int (f l), .int (g l)] := by
  unfold tab
  induction (List.range n) with
  | nil => rfl
  | cons a r ih => rw [List.map_cons, List.map_cons, List.map_cons, zipL, ih]
theorem enum_tab {n : Nat} {f : Nat → Int} : enumL 0 (tab n f) = (List.range n).map fun l => .tup [.int (l : Nat), .int (f l)] := by
  apply List.ext_getElem?
  intro i
  by_cases h : i < n
  · have hl : i < (enumL 0 (tab n f)).length := by rw [enumL_len, tab_len]; exact h
    obtain ⟨x, h1, h2⟩ := enumL_get _ _ _ _ (List.getElem?_eq_getElem hl)
    rw [tab_get h] at h1
    cases h1
    rw [List.getElem?_eq_getElem hl, h2, List.getElem?_map, List.getElem?_range h]
    simp
  · rw [List.getElem?_eq_none (by rw [enumL_len, tab_len]; omega), List.getElem?_eq_none (by simp; omega)]
theorem pow_le20 {b : Nat} (h : b ≤ 20) : 2 ^ b ≤ 1048576 := Nat.pow_le_pow_right (n := 2) (by decide) h
abbrev feedL (fs : List (Int × Int)) : List PV := fs.map fun f => .tup [.int f.1, .int f.2]
def sp_after_list : ZSp := fun xs M Q E => match xs with
  | [x, .tup [.int box, .int room, .tup ts]] => ∃ b f fs bx, (IsSeq x M (tab (2 ^ b) f) ∧ b ≤ 20 ∧ box = (bx : Nat) ∧ bx < b ∧ ts = feedL fs ∧ FeedsOk fs) ∧ allocL Q (tab (2 ^ b) (stepF (2 ^ b) bx room fs f)) M
  | _ => False
/-! after_list : 0 table, 1 step, 2 box, 3 room, 4 feeds, 5 best, 6 number, 7 out, 8 lot -/
def N_after_list : List Str := [Str.ofString "table", Str.ofString "step", Str.ofString "box", Str.ofString "room", Str.ofString "feeds", Str.ofString "best", Str.ofString "number", Str.ofString "out", Str.ofString "lot"]
def ps_after_list : List Str := [Str.ofString "table", Str.ofString "step"]
def b_after_list : ZS :=
  (.seq (.asg (.tup 3 (.cons (.nm 2) (.cons (.nm 3) (.cons (.nm 4) .nil)))) (.var 1)) <|
  (.seq (.asg (.nm 5) (.lc [(Str.ofString "number", 6), (Str.ofString "out", 7)] (.tup 2 (.cons (.nm 6) (.cons (.nm 7) .nil))) (.zip (.var 0) (.call (Str.ofString "outside_sums") 2 sp_outside_sums (.cons (.var 4) (.cons (.blt .len (.cons (.var 0) .nil)) .nil)))) .tt (.bin .Add (.var 6) (.blt .min (.cons (.var 3) (.cons (.var 7) .nil)))))) <|
  (.seq (.expr (.call (Str.ofString "least_above") 1 sp_least_above (.cons (.var 5) .nil))) <|
  (.seq (.ret (.lc [(Str.ofString "lot", 8), (Str.ofString "number", 6)] (.tup 2 (.cons (.nm 8) (.cons (.nm 6) .nil))) (.enum (.var 0)) .tt (.ife (.tv (.bin .BitAnd (.bin .RShift (.var 8) (.var 2)) (.int 1))) (.ix (.var 5) (.bin .Sub (.var 8) (.bin .LShift (.int 1) (.var 2)))) (.var 6)))) <|
  .nil))))

theorem m_after_list : Meets 9 2 (wpS b_after_list) sp_after_list := by
  intro xs M Q E h
  unfold sp_after_list at h
  split at h
  · rename_i x box room ts
    obtain ⟨b, f, fs, bx, ⟨hx, hb, rfl, hbx, rfl, hfs⟩, hq⟩ := h
    have hb2 := pow_le20 hb
    refine ⟨rfl, ?_⟩
    show wpS b_after_list _ _ [some x, some (.tup [.int bx, .int room, .tup _]), none, none, none, none, none, none, none] M
    unfold b_after_list
    walk_at "z"
    rw [hx.len, tab_len]
    refine ⟨fs, 2 ^ b, ⟨rfl, rfl, Nat.one_le_two_pow, hb2, hfs⟩, fun q hq1 => ?_⟩
    refine IsSeq.zip (hx.fg (fg_mu Fg.refl hq1 nohid_l)) isSeq_new fun ok hok => ?_
    rw [zip_tab]
    refine lc_map (fun l => .tup [.int (f l), .int (outAt fs l)]) (fun l => .int (worth f room fs l)) (List.range (2 ^ b)) [] (hok _ Fg.refl) (by simp; unfold sizeLine; omega) (fun l hl k hk => ?_) ?_
    · walk_at "z"
      exact hk _ Fg.refl
    · intro p hp
      refine ⟨b, worth f room fs, ⟨mu_same, hb⟩, ?_⟩
      rw [mu_mu]
      walk_at "z"
      obtain ⟨hpq, hp⟩ := new_none hp
      have fg0 : Fg M (mu (mu M q (.lst (tab (2 ^ b) (outAt fs)))) p (.lst (tab (2 ^ b) (upMin (2 ^ b) (worth f room fs))))) := fg_mu (fg_mu Fg.refl hq1 nohid_l) hp nohid_l
      refine IsSeq.enum (hx.fg fg0) fun ok hok => ?_
      rw [enum_tab]
      refine lc_map (fun l => .tup [.int (l : Nat), .int (f l)]) (fun l => .int (stepF (2 ^ b) bx room fs f l)) (List.range (2 ^ b)) [] (hok _ Fg.refl) (by simp; unfold sizeLine; omega) (fun l hl k hk => ?_) ?_
      · have hl2 := List.mem_range.mp hl
        walk_at "z"
        rw [Int.toNat_natCast, bit_int]
        refine ⟨Int.natCast_nonneg _, ?_⟩
        unfold stepF at hk
        by_cases hbit : l.testBit bx = true
        · obtain ⟨hle, _⟩ := sub_bit hbit
          rw [if_pos hbit] at hk
          rw [if_pos hbit, if_pos (show ((1 : Int) != 0) = true by decide)]
          refine ⟨⟨Int.natCast_nonneg _, by omega, by decide⟩, ?_⟩
          have e : (l : Int) - 1 * 2 ^ bx = ((l - 2 ^ bx : Nat) : Int) := by
            rw [Int.natCast_sub hle, Int.natCast_pow, Int.one_mul]; rfl
          have hlt : l - 2 ^ bx < 2 ^ b := Nat.lt_of_le_of_lt (Nat.sub_le _ _) hl2
          rw [e, x_ref lget_mu (tab_at hlt)]
          exact hk _ Fg.refl
        · rw [if_neg hbit] at hk
          rw [if_neg hbit, if_neg (show ¬ ((0 : Int) != 0) = true by decide)]
          exact hk _ Fg.refl
      · intro r hr
        obtain ⟨hrp, hr⟩ := new_none hr
        obtain ⟨hrq, hr⟩ := new_none hr
        exact dropQ_at hq (fg_mu fg0 hr nohid_l) hr mu_same
  · exact h.elim
def sp_table_after : ZSp := fun xs M Q E => match xs with
  | [x, .tup [.int box, .int room, .tup ts]] => ∃ b f fs bx, (IsSeq x M (tab (2 ^ b) f) ∧ b ≤ 20 ∧ box = (bx : Nat) ∧ bx < b ∧ ts = feedL fs ∧ FeedsOk fs) ∧ Q (.tup (tab (2 ^ b) (stepF (2 ^ b) bx room fs f))) M
  | _ => False
/-! table_after : 0 table, 1 step -/
def N_table_after : List Str := [Str.ofString "table", Str.ofString "step"]
def ps_table_after : List Str := [Str.ofString "table", Str.ofString "step"]
def b_table_after : ZS :=
  (.seq (.ret (.blt .tuple (.cons (.call (Str.ofString "after_list") 2 sp_after_list (.cons (.var 0) (.cons (.var 1) .nil))) .nil))) <|
  .nil)

theorem m_table_after : Meets 2 2 (wpS b_table_after) sp_table_after := by
  intro xs M Q E h
  unfold sp_table_after at h
  split at h
  · rename_i x box room ts
    obtain ⟨b, f, fs, bx, hh, hq⟩ := h
    refine ⟨rfl, ?_⟩
    show wpS b_table_after _ _ [some x, some (.tup [.int box, .int room, .tup _])] M
    unfold b_table_after
    walk_at "z"
    refine ⟨b, f, fs, bx, hh, fun p hp => ?_⟩
    show bltP _ _ _ _
    rw [f_tupl lget_mu]
    exact dropQ_of (fg_mu Fg.refl hp nohid_l) hq
  · exact h.elim
/-- a step: its box, room, feeds -/
abbrev Stp := Nat × Int × List (Int × Int)
def stpP (s : Stp) : PV := .tup [.int s.1, .int s.2.1, .tup (feedL s.2.2)]
def StpOk (b : Nat) (s : Stp) : Prop := s.1 < b ∧ FeedsOk s.2.2
def goAll (n : Nat) (ss : List Stp) (f : Nat → Int) : Nat → Int := ss.foldl (fun f s => stepF n s.1 s.2.1 s.2.2 f) f
def sp_table_after_all : ZSp := fun xs M Q E => match xs with
  | [x, .tup ss] => ∃ b f st, (IsSeq x M (tab (2 ^ b) f) ∧ b ≤ 20 ∧ ss = st.map stpP ∧ ∀ s ∈ st, StpOk b s) ∧ Q (.tup (tab (2 ^ b) (goAll (2 ^ b) st f))) M
  | _ => False
/-! table_after_all : 0 table, 1 steps, 2 step -/
def N_table_after_all : List Str := [Str.ofString "table", Str.ofString "steps", Str.ofString "step"]
def ps_table_after_all : List Str := [Str.ofString "table", Str.ofString "steps"]
def b_table_after_all : ZS :=
  (.seq (.fors (.nm 2) (.seq (.var 1))
    (.seq (.asg (.nm 0) (.call (Str.ofString "after_list") 2 sp_after_list (.cons (.var 0) (.cons (.var 2) .nil)))) <|
    .nil)) <|
  (.seq (.ret (.blt .tuple (.cons (.var 0) .nil))) <|
  .nil))

theorem m_table_after_all : Meets 3 2 (wpS b_table_after_all) sp_table_after_all := by
  intro xs M Q E h
  unfold sp_table_after_all at h
  split at h
  · rename_i x ss
    obtain ⟨b, f, st, ⟨hx, hb, rfl, hst⟩, hq⟩ := h
    refine ⟨rfl, ?_⟩
    show wpS b_table_after_all _ _ [some x, some (.tup _), none] M
    unfold b_table_after_all
    walk_at "z"
    refine for_map stpP st (fun pre τ M' => ∃ y u, τ = [some y, some (.tup (st.map stpP)), u] ∧ Fg M M' ∧ IsSeq y M' (tab (2 ^ b) (goAll (2 ^ b) pre f))) (fun _ _ _ _ _ _ => trivial) ?_ ?_ _ _ ⟨x, none, rfl, Fg.refl, hx⟩
    · rintro τ M' ⟨y, u, rfl, fg, hy⟩
      walk_at "z"
      rw [hy.tuple]
      exact dropQ_of fg hq
    · rintro pre s post τ M' k e ⟨y, u, rfl, fg, hy⟩ hk
      walk_at "z"
      have hs := hst s (by rw [← e]; simp)
      refine ⟨b, _, s.2.2, s.1, ⟨hy, hb, rfl, hs.1, rfl, hs.2⟩, fun p hp => ?_⟩
      refine hk _ _ _ Fg.refl ⟨_, _, rfl, fg.trans (fg_mu Fg.refl hp nohid_l), ?_⟩
      unfold goAll
      rw [List.foldl_append]
      exact isSeq_new
  · exact h.elim
def sp_capped_table : ZSp := fun xs M Q E => match xs with
  | [.tup ts, .int size] => ∃ n f, (ts = tab n f ∧ n ≤ 1048576) ∧ Q (.tup (tab n fun l => min (f l) size)) M
  | _ => False
/-! capped_table : 0 table, 1 size, 2 number -/
def N_capped_table : List Str := [Str.ofString "table", Str.ofString "size", Str.ofString "number"]
def ps_capped_table : List Str := [Str.ofString "table", Str.ofString "size"]
def b_capped_table : ZS :=
  (.seq (.ret (.blt .tuple (.cons (.lc [(Str.ofString "number", 2)] (.nm 2) (.seq (.var 0)) .tt (.blt .min (.cons (.var 2) (.cons (.var 1) .nil)))) .nil))) <|
  .nil)

theorem m_capped_table : Meets 3 2 (wpS b_capped_table) sp_capped_table := by
  intro xs M Q E h
  unfold sp_capped_table at h
  split at h
  · rename_i ts size
    obtain ⟨n, f, ⟨rfl, hn⟩, hq⟩ := h
    refine ⟨rfl, ?_⟩
    show wpS b_capped_table _ _ [some (.tup _), some (.int size), none] M
    unfold b_capped_table
    walk_at "z"
    refine lc_map (fun l => .int (f l)) (fun l => .int (min (f l) size)) (List.range n) [] trivial (by simp; unfold sizeLine; omega) (fun l hl k hk => ?_) ?_
    · walk_at "z"
      exact hk _ Fg.refl
    · intro p hp
      rw [f_tupl lget_mu]
      exact dropQ_of (fg_mu Fg.refl hp nohid_l) hq
  · exact h.elim
def sp_beside_table : ZSp := fun xs M Q E => match xs with
  | [.tup ts, .tup us] => ∃ n f m g, (ts = tab n f ∧ us = tab m g ∧ 0 < n ∧ n * m ≤ 1048576) ∧ Q (.tup (tab (n * m) fun l => f (l % n) + g (l / n))) M
  | _ => False
theorem tab_flat (n : Nat) (f g : Nat → Int) (hn : 0 < n) : ∀ m, (List.range m).flatMap (fun j => (List.range n).map fun i => PV.int (f i + g j)) = tab (n * m) fun l => f (l % n) + g (l / n)
  | 0 => rfl
  | m + 1 => by
    rw [List.range_succ, List.flatMap_append, tab_flat n f g hn m]
    unfold tab
    rw [Nat.mul_succ, List.range_add, List.map_append, List.map_map]
    congr 1
    simp only [List.flatMap_cons, List.flatMap_nil, List.append_nil]
    refine List.map_congr_left fun i hi => ?_
    have hi := List.mem_range.mp hi
    show PV.int _ = PV.int _
    rw [Nat.mul_add_mod, Nat.mod_eq_of_lt hi, Nat.mul_add_div hn, Nat.div_eq_of_lt hi, Nat.add_zero]
/-! beside_table : 0 one, 1 other, 2 second, 3 first -/
def N_beside_table : List Str := [Str.ofString "one", Str.ofString "other", Str.ofString "second", Str.ofString "first"]
def ps_beside_table : List Str := [Str.ofString "one", Str.ofString "other"]
def b_beside_table : ZS :=
  (.seq (.ret (.blt .tuple (.cons (.lc2 [(Str.ofString "second", 2), (Str.ofString "first", 3)] (.nm 2) (.seq (.var 1)) .tt [3] (.nm 3) (.seq (.var 0)) .tt (.bin .Add (.var 3) (.var 2))) .nil))) <|
  .nil)

theorem m_beside_table : Meets 4 2 (wpS b_beside_table) sp_beside_table := by
  intro xs M Q E h
  unfold sp_beside_table at h
  split at h
  · rename_i ts us
    obtain ⟨n, f, m, g, ⟨rfl, rfl, hn, hnm⟩, hq⟩ := h
    refine ⟨rfl, ?_⟩
    show wpS b_beside_table _ _ [some (.tup _), some (.tup _), none, none] M
    unfold b_beside_table
    walk_at "z"
    refine lc2_map (fun j => .int (g j)) (fun j => (List.range n).map fun i => .int (f i + g j)) (List.range m) [] trivial ?_ (fun j hj acc hacc k hk => ?_) ?_
    · rw [List.nil_append, tab_flat n f g hn m, tab_len]; unfold sizeLine; omega
    · have hj := List.mem_range.mp hj
      refine lc_in (fun i => .int (f i)) (fun i => .int (f i + g j)) (List.range n) acc trivial (by simpa using hacc) (fun i hi k' hk' => ?_) hk
      walk_at "z"
      exact hk' _ Fg.refl
    · intro p hp
      show bltP _ _ _ _
      rw [f_tupl lget_mu]
      refine dropQ_of (fg_mu Fg.refl hp nohid_l) ?_
      rw [List.nil_append, tab_flat n f g hn m]
      exact hq
  · exact h.elim
def sp_empty_table : ZSp := fun xs M Q E => match xs with
  | [.int k] => ∃ n, (k = (n : Nat) ∧ n ≤ 20) ∧ Q (.tup (tab (2 ^ n) fun _ => 0)) M
  | _ => False
/-! empty_table : 0 boxes -/
def N_empty_table : List Str := [Str.ofString "boxes"]
def ps_empty_table : List Str := [Str.ofString "boxes"]
def b_empty_table : ZS :=
  (.seq (.ret (.blt .tuple (.cons (.bin .Mult (.lst (.cons (.int 0) .nil)) (.bin .LShift (.int 1) (.var 0))) .nil))) <|
  .nil)

theorem m_empty_table : Meets 1 1 (wpS b_empty_table) sp_empty_table := by
  intro xs M Q E h
  unfold sp_empty_table at h
  split at h
  · rename_i k
    obtain ⟨n, ⟨rfl, hn⟩, hq⟩ := h
    have hn2 := pow_le20 hn
    refine ⟨rfl, ?_⟩
    show wpS b_empty_table _ _ [some (.int n)] M
    unfold b_empty_table
    walk_at "z"
    refine ⟨Nat.le_of_ble_eq_true rfl, fun p hp => ⟨⟨Int.natCast_nonneg _, by omega, by decide⟩, ?_⟩⟩
    rw [b_rep mu_same]
    have e1 : (1 : Int) * 2 ^ ((n : Int)).toNat = ((2 ^ n : Nat) : Int) := by rw [Int.toNat_natCast, Int.one_mul, Int.natCast_pow]; rfl
    rw [e1, Int.toNat_natCast]
    refine ⟨⟨by have := Int.natCast_nonneg (2 ^ n); omega, by omega, by simp; unfold sizeLine; omega⟩, fun q hq1 => ?_⟩
    show bltP _ _ _ _
    rw [f_tupl lget_mu]
    refine dropQ_of (fg_mu (fg_mu Fg.refl hp nohid_l) (new_none hq1).2 nohid_l) ?_
    have e2 : (List.replicate (2 ^ n) [PV.int 0]).flatten = tab (2 ^ n) fun _ => 0 := by
      unfold tab
      generalize 2 ^ n = m
      induction m with
      | zero => rfl
      | succ m ih => rw [List.replicate_succ', List.flatten_append, ih, List.range_succ, List.map_append]; rfl
    rw [e2]
    exact hq
  · exact h.elim
end Zd

set_option Elab.async false
set_option linter.all false
set_option maxRecDepth 100000
set_option maxHeartbeats 8000000
/-! Y 6: the pool of numbers, and what is drawn from it. -/
namespace Zd
open PySem
open L2 (V HO Hp)
local macro_rules | `(tactic| walk_at "z") => `(tactic| simp only [↓s_nil, ↓s_seq, ↓s_pass, ↓s_brk, ↓s_cont, ↓s_expr, ↓s_ret, ↓s_retn, ↓s_ifs, ↓s_asg, ↓s_par, ↓s_aug, ↓s_fors, ↓s_raise, ↓s_try, ↓p_get0, ↓p_getS, ↓e_var, ↓e_int, ↓e_bl, ↓e_non, ↓e_str, ↓e_gl, ↓e_ty, ↓e_bin, ↓e_un, ↓e_cmp, ↓e_chn, ↓e_vand, ↓e_vor, ↓e_vnot, ↓e_ife, ↓e_tup, ↓e_lst, ↓e_ix, ↓e_sl, ↓e_call, ↓e_callK, ↓e_blt, ↓e_mth, w_own0, w_own, w_nil, w_cons, ↓e_lc, ↓e_lc2, ↓e_dc, ↓e_dget, ↓e_dnew, ↓e_mnd, ↓e_dget1, ↓e_lvals, ↓e_fmt, ↓e_js, ↓e_op1, ↓e_op2, ↓i_it1, ↓i_it2, ↓i_it3, ↓s_augx, ↓j_nil, ↓j_cons, ↓fmt_str, ↓fmt_int, ↓strO_str, ↓i_enum, ↓i_zip, ↓enum_t, ↓zip_tt, ↓a_nil, ↓a_cons, ↓o_none, ↓o_some, ↓o_int, ↓t_tt, ↓t_tv, ↓t_cmp, ↓t_chn, ↓t_and, ↓t_or, ↓t_not, ↓ta_one, ↓ta_cons, ↓to_one, ↓to_cons, ↓va_one, ↓va_cons, ↓vo_one, ↓vo_cons, ↓i_seq, ↓i_rng1, ↓i_rng2, ↓rng1_int, ↓rng2_int, ↓seq_tupE, ↓seq_strE, ↓g_nm, ↓g_tup, ↓g_ix, ↓gs_nil, ↓gs_cons, ↓tru_bl, ↓tru_non, ↓tru_int, ↓tru_tup, ↓isBl_bl, ↓b_add, ↓b_adds, ↓b_addt, ↓b_sub, ↓b_mul, ↓b_div, ↓b_mod, ↓b_pow, ↓b_shl, ↓b_shr, ↓b_and, ↓b_or, ↓b_xor, ↓u_neg, ↓u_inv, ↓c_eq, ↓c_eqs, ↓c_eqb, ↓c_ne, ↓c_nes, ↓c_neb, ↓c_lt, ↓c_le, ↓c_gt, ↓c_ge, ↓au_add, ↓au_sub, ↓f_lent, ↓f_lens, ↓f_abs, ↓f_int, ↓f_intb, ↓f_max, ↓f_min, ↓f_tupt, ↓f_listt, ↓f_isi_ii, ↓f_isi_ib, ↓f_isi_it, ↓f_isi_is, ↓f_isi_il, ↓f_isi_tt, ↓f_isi_ti, ↓f_isi_tb, ↓f_isi_ts, ↓f_isi_tl, ↓f_isi_bb, ↓f_isi_bi, ↓f_isi_ss, ↓f_isi_st, ↓f_isi_si, ↓f_isi_sb, ↓f_str, ↓x_tup0, ↓x_tup1, ↓x_tup2, ↓m_bits, ↓m_bits2, decide_eq_true_eq, Bool.true_and, Bool.and_true, Bool.not_true, Bool.not_false, Bool.false_eq_true, if_true, if_false, ite_true, ite_false, true_and, and_true, List.set_cons_zero, List.set_cons_succ, List.length_cons, List.length_nil, decide_true, decide_false, Bool.not_eq_true', decide_eq_false_iff_not, not_true_eq_false, not_false_eq_true, eq_self, reduceIte])
local macro_rules | `(tactic| walk_at "zh") => `(tactic| simp only [↓s_nil, ↓s_seq, ↓s_pass, ↓s_brk, ↓s_cont, ↓s_expr, ↓s_ret, ↓s_retn, ↓s_ifs, ↓s_asg, ↓s_par, ↓s_aug, ↓s_fors, ↓s_raise, ↓s_try, ↓p_get0, ↓p_getS, ↓e_var, ↓e_int, ↓e_bl, ↓e_non, ↓e_str, ↓e_gl, ↓e_ty, ↓e_bin, ↓e_un, ↓e_cmp, ↓e_chn, ↓e_vand, ↓e_vor, ↓e_vnot, ↓e_ife, ↓e_tup, ↓e_lst, ↓e_ix, ↓e_sl, ↓e_call, ↓e_callK, ↓e_blt, ↓e_mth, w_own0, w_own, w_nil, w_cons, ↓e_lc, ↓e_lc2, ↓e_dc, ↓e_dget, ↓e_dnew, ↓e_mnd, ↓e_dget1, ↓e_lvals, ↓e_fmt, ↓e_js, ↓e_op1, ↓e_op2, ↓i_it1, ↓i_it2, ↓i_it3, ↓s_augx, ↓j_nil, ↓j_cons, ↓fmt_str, ↓fmt_int, ↓strO_str, ↓i_enum, ↓i_zip, ↓enum_t, ↓zip_tt, ↓a_nil, ↓a_cons, ↓o_none, ↓o_some, ↓o_int, ↓t_tt, ↓t_tv, ↓t_cmp, ↓t_chn, ↓t_and, ↓t_or, ↓t_not, ↓ta_one, ↓ta_cons, ↓to_one, ↓to_cons, ↓va_one, ↓va_cons, ↓vo_one, ↓vo_cons, ↓i_seq, ↓i_rng1, ↓i_rng2, ↓rng1_int, ↓rng2_int, ↓seq_tupE, ↓seq_strE, ↓g_nm, ↓g_tup, ↓g_ix, ↓gs_nil, ↓gs_cons, ↓tru_bl, ↓tru_non, ↓tru_int, ↓tru_tup, ↓isBl_bl, ↓b_add, ↓b_adds, ↓b_addt, ↓b_sub, ↓b_mul, ↓b_div, ↓b_mod, ↓b_pow, ↓b_shl, ↓b_shr, ↓b_and, ↓b_or, ↓b_xor, ↓u_neg, ↓u_inv, ↓c_eq, ↓c_eqs, ↓c_eqb, ↓c_ne, ↓c_nes, ↓c_neb, ↓c_lt, ↓c_le, ↓c_gt, ↓c_ge, ↓au_add, ↓au_sub, ↓f_lent, ↓f_lens, ↓f_abs, ↓f_int, ↓f_intb, ↓f_max, ↓f_min, ↓f_tupt, ↓f_listt, ↓f_isi_ii, ↓f_isi_ib, ↓f_isi_it, ↓f_isi_is, ↓f_isi_il, ↓f_isi_tt, ↓f_isi_ti, ↓f_isi_tb, ↓f_isi_ts, ↓f_isi_tl, ↓f_isi_bb, ↓f_isi_bi, ↓f_isi_ss, ↓f_isi_st, ↓f_isi_si, ↓f_isi_sb, ↓f_str, ↓x_tup0, ↓x_tup1, ↓x_tup2, ↓m_bits, ↓m_bits2, decide_eq_true_eq, Bool.true_and, Bool.and_true, Bool.not_true, Bool.not_false, Bool.false_eq_true, if_true, if_false, ite_true, ite_false, true_and, and_true, List.set_cons_zero, List.set_cons_succ, List.length_cons, List.length_nil, decide_true, decide_false, Bool.not_eq_true', decide_eq_false_iff_not, not_true_eq_false, not_false_eq_true, eq_self, reduceIte, *])
/-- two lists: the great numbers, and [that list, mixed] -/
def poolF (p g : Addr) : Hp → Prop := fun H => ∃ (ns : List Int) (m : Int), H p = some (.lst [.ref g, .int m]) ∧ H g = some (.lst (ns.map V.int)) ∧ p ≠ g
abbrev poolO (p g : Addr) : MO := .abs (poolF p g) [p, g]
def Pool (M : Mp) (p : Addr) : Prop := ∃ g, M p = some (poolO p g)
theorem Pool.fg {M M' : Mp} {p : Addr} (h : Pool M p) (f : Fg M M') : Pool M' p := by
  obtain ⟨g, h⟩ := h
  exact ⟨g, f.1 _ _ h⟩
theorem Pool.mu {M : Mp} {p q : Addr} {o : MO} (h : Pool M p) (hq : M q = none) : Pool (Zd.mu M q o) p := by
  obtain ⟨g, h⟩ := h
  exact ⟨g, by rw [mu_ne (ne_new hq h)]; exact h⟩
abbrev openM (M : Mp) (p g : Addr) (ns : List Int) (m : Int) : Mp := Zd.mu (Zd.mu M g (.lst (ns.map PV.int))) p (.lst [.ref g, .int m])
section
variable {K : PySem.W.Frag} {P H : Hp} {M : Mp} {p g : Addr}
theorem pool_mok (h : poolF p g H) : MOk K H p (poolO p g) := by
  refine ⟨h, List.mem_cons_self, ?_, fun H1 H2 _ e ⟨ns, m, h1, h2, h3⟩ => ⟨ns, m, by rw [e p List.mem_cons_self]; exact h1, by rw [e g (List.mem_cons_of_mem _ List.mem_cons_self)]; exact h2, h3⟩⟩
  obtain ⟨ns, m, h1, _⟩ := h
  rw [h1]; exact fun z => nomatch z
theorem open_at {ns : List Int} {m : Int} (hne : p ≠ g) (s : SRm K P H (openM M p g ns m)) : poolF p g H := by
  unfold openM at s
  obtain ⟨vs, h1, h2⟩ := s.ok p _ mu_same
  obtain ⟨us, h3, h4⟩ := s.ok g (.lst (ns.map PV.int)) (by rw [mu_ne (Ne.symm hne), mu_same])
  have e4 := Rs.toInt h4
  subst e4
  obtain ⟨v, w, rfl, r1, r2⟩ := Rs.of2 h2
  obtain rfl := R.of_ref r1
  obtain rfl := R.of_int r2
  exact ⟨ns, m, h1, h3, hne⟩
theorem pool_open (s : SRm K P H M) (hM : M p = some (poolO p g)) : ∃ ns m, p ≠ g ∧ M g = some (.hid p) ∧ SRm K P H (openM M p g ns m) := by
  obtain ⟨⟨ns, m, h1, h2, h3⟩, _⟩ := s.ok p _ hM
  have hg : M g = some (.hid p) := (s.own p _ _ hM g (List.mem_cons_of_mem _ List.mem_cons_self)).resolve_left (Ne.symm h3)
  refine ⟨ns, m, h3, hg, ?_⟩
  unfold openM
  refine ⟨fun a o e => ?_, fun a φ F e b hb => ?_, fun a o e => ?_⟩
  · by_cases ha : a = p
    · subst ha; rw [mu_same] at e; cases e
      exact ⟨_, h1, Rs.cons rfl (Rs.one rfl)⟩
    · rw [mu_ne ha] at e
      by_cases hag : a = g
      · subst hag; rw [mu_same] at e; cases e
        exact ⟨_, h2, Rs.int ns⟩
      · rw [mu_ne hag] at e; exact s.ok a o e
  · by_cases ha : a = p
    · subst ha; rw [mu_same] at e; cases e
    · rw [mu_ne ha] at e
      by_cases hag : a = g
      · subst hag; rw [mu_same] at e; cases e
      · rw [mu_ne hag] at e
        rcases s.own a φ F e b hb with z | z
        · exact .inl z
        · refine .inr ?_
          have b1 : b ≠ p := fun y => by subst y; rw [hM] at z; cases z
          have b2 : b ≠ g := fun y => by subst y; rw [hg] at z; cases z; exact ha rfl
          rw [mu_ne b1, mu_ne b2]; exact z
  · obtain ⟨a1, a2⟩ := s.pin a o e
    have b1 : a ≠ p := fun y => by subst y; rw [hM] at a2; cases a2
    have b2 : a ≠ g := fun y => by subst y; rw [hg] at a2; cases a2
    exact ⟨a1, by rw [mu_ne b1, mu_ne b2]; exact a2⟩
theorem pool_close {ns : List Int} {m : Int} (hM : M p = some (poolO p g)) (hg : M g = some (.hid p)) (hne : p ≠ g) (own : ∀ a φ F, M a = some (.abs φ F) → ∀ b ∈ F, b = a ∨ M b = some (.hid a)) : Sg M (openM M p g ns m) := fun K P H s => by
  have hp := open_at hne s
  unfold openM at s
  refine ⟨fun a o e => ?_, own, fun a o e => ?_⟩
  · by_cases ha : a = p
    · subst ha; rw [hM] at e; cases e
      exact pool_mok hp
    · by_cases hag : a = g
      · subst hag; rw [hg] at e; cases e
        obtain ⟨_, _, _, h2, _⟩ := hp
        show H a ≠ none
        rw [h2]; exact fun z => nomatch z
      · exact s.ok a o (by rw [mu_ne ha, mu_ne hag]; exact e)
  · obtain ⟨a1, a2⟩ := s.pin a o e
    have b1 : a ≠ p := fun y => by subst y; rw [mu_same] at a2; cases a2
    rw [mu_ne b1] at a2
    have b2 : a ≠ g := fun y => by subst y; rw [mu_same] at a2; cases a2
    rw [mu_ne b2] at a2
    exact ⟨a1, a2⟩
theorem pool_make {ns : List Int} {m : Int} (hp : M p = none) (hg : M g = none) (hne : p ≠ g) : Sg (mu (mu M g (.hid p)) p (poolO p g)) (openM M p g ns m) := fun K P H s => by
  have hh := open_at hne s
  unfold openM at s
  refine ⟨fun a o e => ?_, fun a φ F e b hb => ?_, fun a o e => ?_⟩
  · by_cases ha : a = p
    · subst ha; rw [mu_same] at e; cases e
      exact pool_mok hh
    · rw [mu_ne ha] at e
      by_cases hag : a = g
      · subst hag; rw [mu_same] at e; cases e
        obtain ⟨_, _, _, h2, _⟩ := hh
        show H a ≠ none
        rw [h2]; exact fun z => nomatch z
      · rw [mu_ne hag] at e
        exact s.ok a o (by rw [mu_ne ha, mu_ne hag]; exact e)
  · by_cases ha : a = p
    · subst ha; rw [mu_same] at e; cases e
      rcases List.mem_cons.mp hb with z | z
      · exact .inl z
      · have z := List.mem_singleton.mp z
        subst z
        exact .inr (by rw [mu_ne (Ne.symm hne), mu_same])
    · rw [mu_ne ha] at e
      by_cases hag : a = g
      · subst hag; rw [mu_same] at e; cases e
      · rw [mu_ne hag] at e
        rcases s.own a φ F (by rw [mu_ne ha, mu_ne hag]; exact e) b hb with z | z
        · exact .inl z
        · refine .inr ?_
          have b1 : b ≠ p := fun y => by subst y; rw [mu_same] at z; cases z
          rw [mu_ne b1] at z
          have b2 : b ≠ g := fun y => by subst y; rw [mu_same] at z; cases z
          rw [mu_ne b2] at z
          rw [mu_ne b1, mu_ne b2]; exact z
  · obtain ⟨a1, a2⟩ := s.pin a o e
    have b1 : a ≠ p := fun y => by subst y; rw [mu_same] at a2; cases a2
    rw [mu_ne b1] at a2
    have b2 : a ≠ g := fun y => by subst y; rw [mu_same] at a2; cases a2
    rw [mu_ne b2] at a2
    exact ⟨a1, by rw [mu_ne b1, mu_ne b2]; exact a2⟩
end
def sp_law_pool : ZSp := fun xs M Q E => match xs with
  | [.fl xs] => (∃ ns : List Int, xs = ns.map PV.int) ∧ ∀ p g, M p = none → M g = none → p ≠ g → Q (.ref p) (mu (mu M g (.hid p)) p (poolO p g))
  | _ => False
def sp_law_draw : ZSp := fun xs M Q E => match xs with
  | [.ref p, .int n] => (Pool M p ∧ n < 2 ^ 250) ∧ ∀ r : Int, 0 ≤ r → (r = 0 ∨ r < n) → Q (.int r) M
  | _ => False
def bPool (c0 c1 : Int) : ZS :=
  (.seq (.asg (.nm 1) (.lst .nil)) <|
  (.seq (.asg (.nm 2) (.int c0)) <|
  (.seq (.fors (.nm 3) (.seq (.sl (.var 0) .none (.some (.int 63))))
    (.seq (.asg (.nm 4) (.blt .int (.cons (.var 3) .nil))) <|
    (.seq (.ifs (.cmp .GtE (.var 4) (.bin .Pow (.int 10) (.int 18)))
      (.seq (.expr (.mth .append (.var 1) (.cons (.var 4) .nil))) <|
      .nil)
      .nil) <|
    (.seq (.asg (.nm 2) (.bin .Mod (.blt .int (.cons (.bin .Add (.bin .Add (.bin .Mult (.var 2) (.int c1)) (.bin .Mult (.var 4) (.int 2))) (.int 1)) .nil)) (.int 2305843009213693951))) <|
    .nil)))) <|
  (.seq (.ret (.lst (.cons (.var 1) (.cons (.var 2) .nil)))) <|
  .nil))))
theorem cut_map {α : Type} (f : α → PV) (xs : List α) (lo hi : Option Int) : ∃ ys : List α, cutP (xs.map f) lo hi = ys.map f ∧ ys.length ≤ HT.sIx xs.length xs.length hi := by
  refine ⟨(xs.drop (HT.sIx xs.length 0 lo)).take (HT.sIx xs.length xs.length hi - HT.sIx xs.length 0 lo), ?_, by rw [List.length_take, List.length_drop]; omega⟩
  unfold cutP
  rw [List.length_map, ← List.map_drop, ← List.map_take]
theorem m_pool (c0 c1 : Int) (hc : -(2 ^ 64) < c1 ∧ c1 < 2 ^ 64) : Meets 5 1 (wpS (bPool c0 c1)) sp_law_pool := by
  intro xs M Q E h
  unfold sp_law_pool at h
  split at h
  · rename_i xs
    obtain ⟨⟨ns, rfl⟩, hq⟩ := h
    refine ⟨rfl, ?_⟩
    show wpS (bPool c0 c1) _ _ [some (.fl (ns.map PV.int)), none, none, none, none] M
    unfold bPool
    walk_at "z"
    refine ⟨Nat.zero_le _, fun g hg => ?_⟩
    intro q hq1
    obtain ⟨ys, ey, ly⟩ := cut_map PV.int ns none (some 63)
    have ly2 : ys.length ≤ 63 := Nat.le_trans ly (by unfold HT.sIx; simp; omega)
    rw [ey]
    obtain ⟨hqg, hqn⟩ := new_none hq1
    show (match lget (mu _ q _) q with | some xs => _ | none => False)
    rw [lget_mu]
    refine for_map PV.int ys (fun pre τ M' => ∃ (m : Int) (u v : Option PV) (gs : List Int), τ = [some (.fl (ns.map PV.int)), some (.ref g), some (.int m), u, v] ∧ Fg M M' ∧ M' g = some (.lst (gs.map PV.int)) ∧ gs.length ≤ pre.length ∧ lget M' q = some (ys.map PV.int)) (fun pre post τ M' _ ⟨_, _, _, _, _, _, _, _, h⟩ => h) ?_ ?_ _ _ ⟨c0, none, none, [], rfl, fg_mu (fg_mu Fg.refl hg nohid_l) hqn nohid_l, by rw [mu_ne (Ne.symm hqg), mu_same]; rfl, Nat.le_refl _, lget_mu⟩
    · rintro τ M' ⟨m, u, v, gs, rfl, fg, hg', _, _⟩
      walk_at "z"
      refine ⟨Nat.le_of_ble_eq_true rfl, fun p hp => ?_⟩
      have hpM : M p = none := by
        cases e : M p with
        | none => rfl
        | some o => rw [fg.1 _ _ e] at hp; cases hp
      have hpg : p ≠ g := fun z => by subst z; rw [hg'] at hp; cases hp
      refine ⟨_, ?_, hq p g hpM hg hpg⟩
      intro K P H s
      exact pool_make hpM hg hpg K P H (s.fg (fg_mu2 (fg_at fg hg')))
    · rintro pre x post τ M' k e ⟨m, u, v, gs, rfl, fg, hg', hl, hq'⟩ hk
      have hsz : gs.length < sizeLine := by
        have : pre.length ≤ ys.length := by rw [← e, List.length_append]; omega
        unfold sizeLine; omega
      walk_at "z"
      refine ⟨⟨by decide, by decide, by decide⟩, ?_⟩
      by_cases hx : x ≥ 10 ^ (18 : Int).toNat
      · rw [if_pos hx]
        refine ⟨by rw [m_lst (.inl rfl) (lget_of hg')]; trivial, ?_⟩
        rw [m_app hg']
        refine ⟨by rw [List.length_map]; exact hsz, .inl (.inr hc), .inl (.inr ⟨by decide, by decide⟩), by decide, ?_⟩
        refine hk _ _ _ Fg.refl ⟨_, _, _, gs ++ [x], rfl, fg_mu fg hg nohid_l, by rw [mu_same]; simp, by rw [List.length_append, List.length_append]; simp; exact hl, ?_⟩
        rw [lget_ne hqg]; exact hq'
      · rw [if_neg hx]
        refine ⟨.inl (.inr hc), .inl (.inr ⟨by decide, by decide⟩), by decide, ?_⟩
        exact hk _ _ _ Fg.refl ⟨_, _, _, gs, rfl, fg, hg', by rw [List.length_append]; omega, hq'⟩
  · exact h.elim
def bDraw (c1 s1 c2 : Int) : ZS :=
  (.seq (.ifs (.cmp .Lt (.var 1) (.int 2))
    (.seq (.ret (.int 0)) <|
    .nil)
    .nil) <|
  (.seq (.asg (.nm 2) (.ix (.var 0) (.int 0))) <|
  (.seq (.ifs (.cmp .Gt (.blt .len (.cons (.var 2) .nil)) (.int 0))
    (.seq (.asg (.nm 3) (.ix (.var 2) (.int 0))) <|
    (.seq (.asg (.ix (.var 2) (.int 0)) (.bin .FloorDiv (.var 3) (.var 1))) <|
    (.seq (.ifs (.cmp .Eq (.ix (.var 2) (.int 0)) (.int 0))
      (.seq (.expr (.mth .popAt (.var 2) (.cons (.int 0) .nil))) <|
      .nil)
      .nil) <|
    (.seq (.ret (.bin .Mod (.blt .int (.cons (.var 3) .nil)) (.var 1))) <|
    .nil))))
    .nil) <|
  (.seq (.asg (.nm 4) (.bin .Mod (.blt .int (.cons (.bin .Add (.bin .Mult (.ix (.var 0) (.int 1)) (.int c1)) (.int 1)) .nil)) (.int 2305843009213693951))) <|
  (.seq (.asg (.nm 4) (.bin .Mod (.blt .int (.cons (.bin .Add (.bin .Mult (.bin .BitXor (.var 4) (.bin .RShift (.var 4) (.int s1))) (.int c2)) (.int 5)) .nil)) (.int 2305843009213693951))) <|
  (.seq (.asg (.ix (.var 0) (.int 1)) (.var 4)) <|
  (.seq (.ret (.bin .Mod (.blt .int (.cons (.bin .RShift (.var 4) (.int 7)) .nil)) (.var 1))) <|
  .nil)))))))
theorem m_draw (c1 s1 c2 : Int) (h1 : -(2 ^ 64) < c1 ∧ c1 < 2 ^ 64) (h2 : 0 ≤ s1) (h3 : -(2 ^ 64) < c2 ∧ c2 < 2 ^ 64) : MeetsO 5 2 (wpS (bDraw c1 s1 c2)) sp_law_draw := by
  intro xs M Q E h
  unfold sp_law_draw at h
  split at h
  · rename_i p n
    obtain ⟨⟨⟨g, hM⟩, hn⟩, hq⟩ := h
    refine ⟨rfl, fun K P H s => ?_⟩
    obtain ⟨ns, m, hne, hg, so⟩ := pool_open s hM
    refine ⟨_, so, ?_⟩
    have cl : ∀ (ns : List Int) (m : Int) (r : Int), 0 ≤ r → (r = 0 ∨ r < n) → dropQ Q (.int r) (openM M p g ns m) := fun ns m r ha hb => ⟨M, pool_close hM hg hne s.own, hq r ha hb⟩
    show wpS (bDraw c1 s1 c2) _ _ [some (.ref p), some (.int n), none, none, none] (openM M p g ns m)
    unfold bDraw
    have a0 : ∀ (ns : List Int) (m : Int), openM M p g ns m p = some (.lst [.ref g, .int m]) := fun ns m => mu_same
    have a1 : ∀ (ns : List Int) (m : Int), openM M p g ns m g = some (.lst (ns.map PV.int)) := fun ns m => by unfold openM; rw [mu_ne (Ne.symm hne), mu_same]
    have a2 : ∀ (ns ns' : List Int) (m : Int), mu (openM M p g ns m) g (.lst (ns'.map PV.int)) = openM M p g ns' m := fun ns ns' m => by
      unfold openM
      rw [mu_swap hne, mu_mu]
    have a3 : ∀ (ns : List Int) (m m' : Int), mu (openM M p g ns m) p (.lst [.ref g, .int m']) = openM M p g ns m' := fun ns m m' => by
      unfold openM
      rw [mu_mu]
    generalize openM M p g = O at a0 a1 a2 a3 cl
    walk_at "z"
    by_cases h0 : n < 2
    · rw [if_pos h0]
      exact cl _ _ _ (Int.le_refl _) (.inl rfl)
    · rw [if_neg h0]
      have fin : ∀ (ns : List Int) (m k : Int), 0 < n ∧ dropQ Q (.int (k % n)) (O ns m) := fun ns m k => ⟨by omega, cl _ _ _ (Int.emod_nonneg _ (by omega)) (.inr (Int.emod_lt_of_pos _ (by omega)))⟩
      rw [x_ref (lget_of (a0 ns m)) (atI_ok (by decide) rfl), f_lenr (lget_of (a1 ns m))]
      walk_at "z"
      cases ns with
      | nil =>
        rw [if_neg (by simp)]
        rw [x_ref (lget_of (a0 _ m)) (atI_ok (by decide) rfl)]
        walk_at "z"
        refine ⟨.inl (.inr h1), by decide, h2, .inl (.inr h3), by decide, ?_⟩
        rw [set_ok (a0 _ m) (ixN_ok (by decide) (show (1 : Int) < ((2 : Nat) : Int) by decide))]
        rw [show ∀ z, (List.set [PV.ref g, PV.int m] (1 : Int).toNat z) = [PV.ref g, z] from fun _ => rfl, a3]
        exact ⟨by decide, fin _ _ _⟩
      | cons y r =>
        rw [if_pos (by rw [List.length_map, List.length_cons]; omega)]
        rw [x_ref (lget_of (a1 _ m)) (atI_ok (by decide) rfl)]
        walk_at "z"
        refine ⟨.inr (.inl ⟨by omega, ?_⟩), ?_⟩
        · have hlt : n.natAbs < 2 ^ 250 := by omega
          have := (Nat.log2_lt (by omega)).mpr hlt
          omega
        · rw [set_ok (a1 _ m) (ixN_ok (by decide) (by rw [List.length_map, List.length_cons]; omega))]
          rw [show (List.set (List.map PV.int (y :: r)) (0 : Int).toNat (PV.int (y / n))) = (y / n :: r).map PV.int from rfl, a2]
          rw [x_ref (lget_of (a1 _ m)) (atI_ok (by decide) rfl)]
          walk_at "z"
          by_cases hz : y / n = 0
          · rw [if_pos hz]
            refine ⟨by rw [m_lst (.inr (.inr (.inl rfl))) (lget_of (a1 _ m))]; trivial, ?_⟩
            show (match O (y / n :: r) m g with | some (.lst ys) => _ | _ => False)
            rw [a1]
            refine ⟨⟨by decide, by decide⟩, ?_⟩
            rw [show L2.ixN (List.map PV.int (y / n :: r)).length 0 = some 0 from ixN_ok (k := 0) (by decide) (by rw [List.length_map, List.length_cons]; omega)]
            have f1 := fin r m y
            rw [← a2 (y / n :: r) r m] at f1
            exact f1
          · rw [if_neg hz]
            exact fin _ _ _
  · exact h.elim
end Zd

set_option Elab.async false
set_option linter.all false
set_option maxRecDepth 100000
set_option maxHeartbeats 8000000
/-! Y 7: what many laws have: a number, the same, a step, a drawn step. -/
namespace Zd
open PySem
open L2 (V HO Hp)
local macro_rules | `(tactic| walk_at "z") => `(tactic| simp only [↓s_nil, ↓s_seq, ↓s_pass, ↓s_brk, ↓s_cont, ↓s_expr, ↓s_ret, ↓s_retn, ↓s_ifs, ↓s_asg, ↓s_par, ↓s_aug, ↓s_fors, ↓s_raise, ↓s_try, ↓p_get0, ↓p_getS, ↓e_var, ↓e_int, ↓e_bl, ↓e_non, ↓e_str, ↓e_gl, ↓e_ty, ↓e_bin, ↓e_un, ↓e_cmp, ↓e_chn, ↓e_vand, ↓e_vor, ↓e_vnot, ↓e_ife, ↓e_tup, ↓e_lst, ↓e_ix, ↓e_sl, ↓e_call, ↓e_callK, ↓e_blt, ↓e_mth, w_own0, w_own, w_nil, w_cons, ↓e_lc, ↓e_lc2, ↓e_dc, ↓e_dget, ↓e_dnew, ↓e_mnd, ↓e_dget1, ↓e_lvals, ↓e_fmt, ↓e_js, ↓e_op1, ↓e_op2, ↓i_it1, ↓i_it2, ↓i_it3, ↓s_augx, ↓j_nil, ↓j_cons, ↓fmt_str, ↓fmt_int, ↓strO_str, ↓i_enum, ↓i_zip, ↓enum_t, ↓zip_tt, ↓a_nil, ↓a_cons, ↓o_none, ↓o_some, ↓o_int, ↓t_tt, ↓t_tv, ↓t_cmp, ↓t_chn, ↓t_and, ↓t_or, ↓t_not, ↓ta_one, ↓ta_cons, ↓to_one, ↓to_cons, ↓va_one, ↓va_cons, ↓vo_one, ↓vo_cons, ↓i_seq, ↓i_rng1, ↓i_rng2, ↓rng1_int, ↓rng2_int, ↓seq_tupE, ↓seq_strE, ↓g_nm, ↓g_tup, ↓g_ix, ↓gs_nil, ↓gs_cons, ↓tru_bl, ↓tru_non, ↓tru_int, ↓tru_tup, ↓isBl_bl, ↓b_add, ↓b_adds, ↓b_addt, ↓b_sub, ↓b_mul, ↓b_div, ↓b_mod, ↓b_pow, ↓b_shl, ↓b_shr, ↓b_and, ↓b_or, ↓b_xor, ↓u_neg, ↓u_inv, ↓c_eq, ↓c_eqs, ↓c_eqb, ↓c_ne, ↓c_nes, ↓c_neb, ↓c_lt, ↓c_le, ↓c_gt, ↓c_ge, ↓au_add, ↓au_sub, ↓f_lent, ↓f_lens, ↓f_abs, ↓f_int, ↓f_intb, ↓f_max, ↓f_min, ↓f_tupt, ↓f_listt, ↓f_isi_ii, ↓f_isi_ib, ↓f_isi_it, ↓f_isi_is, ↓f_isi_il, ↓f_isi_tt, ↓f_isi_ti, ↓f_isi_tb, ↓f_isi_ts, ↓f_isi_tl, ↓f_isi_bb, ↓f_isi_bi, ↓f_isi_ss, ↓f_isi_st, ↓f_isi_si, ↓f_isi_sb, ↓f_str, ↓x_tup0, ↓x_tup1, ↓x_tup2, ↓m_bits, ↓m_bits2, decide_eq_true_eq, Bool.true_and, Bool.and_true, Bool.not_true, Bool.not_false, Bool.false_eq_true, if_true, if_false, ite_true, ite_false, true_and, and_true, List.set_cons_zero, List.set_cons_succ, List.length_cons, List.length_nil, decide_true, decide_false, Bool.not_eq_true', decide_eq_false_iff_not, not_true_eq_false, not_false_eq_true, eq_self, reduceIte])
local macro_rules | `(tactic| walk_at "zh") => `(tactic| simp only [↓s_nil, ↓s_seq, ↓s_pass, ↓s_brk, ↓s_cont, ↓s_expr, ↓s_ret, ↓s_retn, ↓s_ifs, ↓s_asg, ↓s_par, ↓s_aug, ↓s_fors, ↓s_raise, ↓s_try, ↓p_get0, ↓p_getS, ↓e_var, ↓e_int, ↓e_bl, ↓e_non, ↓e_str, ↓e_gl, ↓e_ty, ↓e_bin, ↓e_un, ↓e_cmp, ↓e_chn, ↓e_vand, ↓e_vor, ↓e_vnot, ↓e_ife, ↓e_tup, ↓e_lst, ↓e_ix, ↓e_sl, ↓e_call, ↓e_callK, ↓e_blt, ↓e_mth, w_own0, w_own, w_nil, w_cons, ↓e_lc, ↓e_lc2, ↓e_dc, ↓e_dget, ↓e_dnew, ↓e_mnd, ↓e_dget1, ↓e_lvals, ↓e_fmt, ↓e_js, ↓e_op1, ↓e_op2, ↓i_it1, ↓i_it2, ↓i_it3, ↓s_augx, ↓j_nil, ↓j_cons, ↓fmt_str, ↓fmt_int, ↓strO_str, ↓i_enum, ↓i_zip, ↓enum_t, ↓zip_tt, ↓a_nil, ↓a_cons, ↓o_none, ↓o_some, ↓o_int, ↓t_tt, ↓t_tv, ↓t_cmp, ↓t_chn, ↓t_and, ↓t_or, ↓t_not, ↓ta_one, ↓ta_cons, ↓to_one, ↓to_cons, ↓va_one, ↓va_cons, ↓vo_one, ↓vo_cons, ↓i_seq, ↓i_rng1, ↓i_rng2, ↓rng1_int, ↓rng2_int, ↓seq_tupE, ↓seq_strE, ↓g_nm, ↓g_tup, ↓g_ix, ↓gs_nil, ↓gs_cons, ↓tru_bl, ↓tru_non, ↓tru_int, ↓tru_tup, ↓isBl_bl, ↓b_add, ↓b_adds, ↓b_addt, ↓b_sub, ↓b_mul, ↓b_div, ↓b_mod, ↓b_pow, ↓b_shl, ↓b_shr, ↓b_and, ↓b_or, ↓b_xor, ↓u_neg, ↓u_inv, ↓c_eq, ↓c_eqs, ↓c_eqb, ↓c_ne, ↓c_nes, ↓c_neb, ↓c_lt, ↓c_le, ↓c_gt, ↓c_ge, ↓au_add, ↓au_sub, ↓f_lent, ↓f_lens, ↓f_abs, ↓f_int, ↓f_intb, ↓f_max, ↓f_min, ↓f_tupt, ↓f_listt, ↓f_isi_ii, ↓f_isi_ib, ↓f_isi_it, ↓f_isi_is, ↓f_isi_il, ↓f_isi_tt, ↓f_isi_ti, ↓f_isi_tb, ↓f_isi_ts, ↓f_isi_tl, ↓f_isi_bb, ↓f_isi_bi, ↓f_isi_ss, ↓f_isi_st, ↓f_isi_si, ↓f_isi_sb, ↓f_str, ↓x_tup0, ↓x_tup1, ↓x_tup2, ↓m_bits, ↓m_bits2, decide_eq_true_eq, Bool.true_and, Bool.and_true, Bool.not_true, Bool.not_false, Bool.false_eq_true, if_true, if_false, ite_true, ite_false, true_and, and_true, List.set_cons_zero, List.set_cons_succ, List.length_cons, List.length_nil, decide_true, decide_false, Bool.not_eq_true', decide_eq_false_iff_not, not_true_eq_false, not_false_eq_true, eq_self, reduceIte, *])

def sp_law_number : ZSp := fun xs M Q E => match xs with
  | [.ref p, .int n] => (Pool M p ∧ 0 ≤ n ∧ n < 2 ^ 249) ∧ ∀ r : Int, 0 ≤ r → r ≤ n → Q (.int r) M
  | _ => False
/-! _law_number : 0 pool, 1 most, 2 habit -/
def N_law_number : List Str := [Str.ofString "pool", Str.ofString "most", Str.ofString "habit"]
def ps_law_number : List Str := [Str.ofString "pool", Str.ofString "most"]
def b_law_number : ZS :=
  (.seq (.asg (.nm 2) (.call (Str.ofString "_law_draw") 2 sp_law_draw (.cons (.var 0) (.cons (.int 6) .nil)))) <|
  (.seq (.ifs (.cmp .Eq (.var 2) (.int 0))
    (.seq (.ret (.int 0)) <|
    .nil)
    .nil) <|
  (.seq (.ifs (.cmp .Eq (.var 2) (.int 1))
    (.seq (.ret (.var 1)) <|
    .nil)
    .nil) <|
  (.seq (.ifs (.cmp .Eq (.var 2) (.int 2))
    (.seq (.ret (.call (Str.ofString "_law_draw") 2 sp_law_draw (.cons (.var 0) (.cons (.bin .Add (.blt .min (.cons (.var 1) (.cons (.int 3) .nil))) (.int 1)) .nil)))) <|
    .nil)
    .nil) <|
  (.seq (.ret (.call (Str.ofString "_law_draw") 2 sp_law_draw (.cons (.var 0) (.cons (.bin .Add (.var 1) (.int 1)) .nil)))) <|
  .nil)))))

theorem m_law_number : Meets 3 2 (wpS b_law_number) sp_law_number := by
  intro xs M Q E h
  unfold sp_law_number at h
  split at h
  · rename_i p n
    obtain ⟨⟨hp, h0, h1⟩, hq⟩ := h
    refine ⟨rfl, ?_⟩
    show wpS b_law_number _ _ [some (.ref p), some (.int n), none] M
    unfold b_law_number
    walk_at "z"
    refine ⟨⟨hp, by decide⟩, fun r hr _ => ?_⟩
    walk_at "z"
    by_cases a0 : r = 0
    · rw [if_pos a0]; exact dropQ_id (hq _ (Int.le_refl _) h0)
    · rw [if_neg a0]
      by_cases a1 : r = 1
      · rw [if_pos a1]; exact dropQ_id (hq _ h0 (Int.le_refl _))
      · rw [if_neg a1]
        by_cases a2 : r = 2
        · rw [if_pos a2]
          exact ⟨⟨hp, by omega⟩, fun x hx hx2 => dropQ_id (hq _ hx (by omega))⟩
        · rw [if_neg a2]
          exact ⟨⟨hp, by omega⟩, fun x hx hx2 => dropQ_id (hq _ hx (by omega))⟩
  · exact h.elim
def sp_law_same : ZSp := fun xs M Q E => match xs with
  | [.tup ts, .ref a] => ∃ n f, (ts = tab n f ∧ lget M a = some (tab n f) ∧ n ≤ 1048576) ∧ Q (.bl true) M
  | _ => False
/-! _law_same : 0 told, 1 due, 2 place, 3 number -/
def N_law_same : List Str := [Str.ofString "told", Str.ofString "due", Str.ofString "place", Str.ofString "number"]
def ps_law_same : List Str := [Str.ofString "told", Str.ofString "due"]
def b_law_same : ZS :=
  (.seq (.ifs (.or (.cons (.not (.tv (.blt .isi (.cons (.var 0) (.cons (.ty "tuple") .nil))))) (.one (.cmp .NotEq (.blt .len (.cons (.var 0) .nil)) (.blt .len (.cons (.var 1) .nil))))))
    (.seq (.ret (.bl false)) <|
    .nil)
    .nil) <|
  (.seq (.fors (.nm 2) (.rng1 (.blt .len (.cons (.var 1) .nil)))
    (.seq (.asg (.nm 3) (.ix (.var 0) (.var 2))) <|
    (.seq (.ifs (.or (.cons (.not (.tv (.blt .isi (.cons (.var 3) (.cons (.ty "int") .nil))))) (.cons (.tv (.blt .isi (.cons (.var 3) (.cons (.ty "bool") .nil)))) (.one (.cmp .NotEq (.var 3) (.ix (.var 1) (.var 2)))))))
      (.seq (.ret (.bl false)) <|
      .nil)
      .nil) <|
    .nil))) <|
  (.seq (.ret (.bl true)) <|
  .nil)))

theorem m_law_same : Meets 4 2 (wpS b_law_same) sp_law_same := by
  intro xs M Q E h
  unfold sp_law_same at h
  split at h
  · rename_i ts a
    obtain ⟨n, f, ⟨rfl, ha, hn⟩, hq⟩ := h
    refine ⟨rfl, ?_⟩
    show wpS b_law_same _ _ [some (.tup _), some (.ref a), none, none] M
    unfold b_law_same
    walk_at "z"
    rw [f_lenr ha]
    walk_at "z"
    rw [f_lenr ha, rng1_int, tab_len]
    refine ⟨by unfold smallI; omega, ?_⟩
    rw [Int.toNat_natCast]
    refine for_rng (fun i τ M' => ∃ u v, τ = [some (.tup (tab n f)), some (.ref a), u, v] ∧ M' = M) n 0 (fun _ => trivial) ?_ ?_ _ _ ⟨none, none, rfl, rfl⟩
    · rintro τ M' ⟨u, v, rfl, rfl⟩
      exact dropQ_id hq
    · rintro i τ M' k hi ⟨u, v, rfl, rfl⟩ hk
      walk_at "z"
      simp only [Int.zero_add]
      rw [x_tup (tab_at hi)]
      walk_at "z"
      rw [x_ref ha (tab_at hi)]
      walk_at "z"
      exact hk _ _ _ Fg.refl ⟨_, _, rfl, rfl⟩
  · exact h.elim
def sp_law_step : ZSp := fun xs M Q E => match xs with
  | [.ref t, .tup [.int box, .int room, .tup ts]] => ∃ b f fs bx, (lget M t = some (tab (2 ^ b) f) ∧ b ≤ 20 ∧ box = (bx : Nat) ∧ bx < b ∧ ts = feedL fs ∧ FeedsOk fs) ∧ allocL Q (tab (2 ^ b) (stepF (2 ^ b) bx room fs f)) M
  | _ => False
/-! _law_step : 0 table, 1 step, 2 box, 3 room, 4 feeds, 5 worths, 6 lot, 7 outside, 8 feed, 9 behind, 10 rest, 11 other -/
def N_law_step : List Str := [Str.ofString "table", Str.ofString "step", Str.ofString "box", Str.ofString "room", Str.ofString "feeds", Str.ofString "worths", Str.ofString "lot", Str.ofString "outside", Str.ofString "feed", Str.ofString "behind", Str.ofString "rest", Str.ofString "other"]
def ps_law_step : List Str := [Str.ofString "table", Str.ofString "step"]
def b_law_step : ZS :=
  (.seq (.asg (.tup 3 (.cons (.nm 2) (.cons (.nm 3) (.cons (.nm 4) .nil)))) (.var 1)) <|
  (.seq (.asg (.nm 5) (.lst .nil)) <|
  (.seq (.fors (.nm 6) (.rng1 (.blt .len (.cons (.var 0) .nil)))
    (.seq (.asg (.nm 7) (.blt .sum (.cons (.lc [(Str.ofString "feed", 8)] (.nm 8) (.seq (.var 4)) (.or (.cons (.cmp .Lt (.ix (.var 8) (.int 0)) (.int 0)) (.one (.cmp .Eq (.bin .BitAnd (.bin .RShift (.var 6) (.ix (.var 8) (.int 0))) (.int 1)) (.int 0))))) (.ix (.var 8) (.int 1))) .nil))) <|
    (.seq (.expr (.mth .append (.var 5) (.cons (.bin .Add (.ix (.var 0) (.var 6)) (.blt .min (.cons (.var 3) (.cons (.var 7) .nil)))) .nil))) <|
    .nil))) <|
  (.seq (.asg (.nm 9) (.lst .nil)) <|
  (.seq (.fors (.nm 6) (.rng1 (.blt .len (.cons (.var 0) .nil)))
    (.seq (.ifs (.cmp .Eq (.bin .BitAnd (.bin .RShift (.var 6) (.var 2)) (.int 1)) (.int 0))
      (.seq (.expr (.mth .append (.var 9) (.cons (.ix (.var 0) (.var 6)) .nil))) <|
      .nil)
      (.seq (.asg (.nm 10) (.bin .Sub (.var 6) (.bin .LShift (.int 1) (.var 2)))) <|
      (.seq (.expr (.mth .append (.var 9) (.cons (.blt .min (.cons (.lc [(Str.ofString "other", 11)] (.nm 11) (.rng1 (.blt .len (.cons (.var 0) .nil))) (.cmp .Eq (.bin .BitAnd (.var 11) (.var 10)) (.var 10)) (.ix (.var 5) (.var 11))) .nil)) .nil))) <|
      .nil))) <|
    .nil)) <|
  (.seq (.ret (.var 9)) <|
  .nil))))))

theorem m_law_step : Meets 12 2 (wpS b_law_step) sp_law_step := by
  intro xs M Q E h
  unfold sp_law_step at h
  split at h
  · rename_i t box room ts
    obtain ⟨b, f, fs, bx, ⟨ht, hb, rfl, hbx, rfl, nd, hlen⟩, hq⟩ := h
    have hb2 := pow_le20 hb
    refine ⟨rfl, ?_⟩
    show wpS b_law_step _ _ [some (.ref t), some (.tup [.int bx, .int room, .tup _]), none, none, none, none, none, none, none, none, none, none] M
    unfold b_law_step
    walk_at "z"
    refine ⟨Nat.zero_le _, fun w hw => ?_⟩
    have htw : t ≠ w := ne_newl hw ht
    show bltP _ _ _ _
    rw [f_lenr (by rw [lget_ne htw]; exact ht), rng1_int, tab_len]
    refine ⟨by have := Int.natCast_nonneg (2 ^ b); unfold smallI; omega, ?_⟩
    rw [Int.toNat_natCast]
    refine for_rng (fun i τ M' => ∃ u v, τ = [some (.ref t), some (.tup [.int bx, .int room, .tup (feedL fs)]), some (.int bx), some (.int room), some (.tup (feedL fs)), some (.ref w), u, v, none, none, none, none] ∧ Fg M M' ∧ M' w = some (.lst (tab i (worth f room fs)))) (2 ^ b) 0 (fun _ => trivial) ?_ ?_ _ _ ⟨none, none, rfl, fg_mu Fg.refl hw nohid_l, mu_same⟩
    · rintro τ M' ⟨u, v, rfl, fg, hw'⟩
      walk_at "z"
      have ht' := fg_lget fg ht
      refine ⟨Nat.zero_le _, fun c hc => ?_⟩
      have hcM : M c = none := by
        cases e : M c with
        | none => rfl
        | some o => rw [fg.1 _ _ e] at hc; cases hc
      have htc : t ≠ c := ne_newl hc ht'
      have hwc : w ≠ c := ne_new hc hw'
      show bltP _ _ _ _
      rw [f_lenr (by rw [lget_ne htc]; exact ht'), rng1_int, tab_len]
      refine ⟨by have := Int.natCast_nonneg (2 ^ b); unfold smallI; omega, ?_⟩
      rw [Int.toNat_natCast]
      refine for_rng (fun i τ M' => ∃ u v r, τ = [some (.ref t), some (.tup [.int bx, .int room, .tup (feedL fs)]), some (.int bx), some (.int room), some (.tup (feedL fs)), some (.ref w), u, v, none, some (.ref c), r, none] ∧ Fg M M' ∧ M' w = some (.lst (tab (2 ^ b) (worth f room fs))) ∧ M' c = some (.lst (tab i (stepF (2 ^ b) bx room fs f)))) (2 ^ b) 0 (fun _ => trivial) ?_ ?_ _ _ ⟨u, v, none, rfl, fg_mu fg hcM nohid_l, by rw [mu_ne hwc]; exact hw', mu_same⟩
      · rintro τ M' ⟨u, v, r, rfl, fg, _, hc'⟩
        exact dropQ_at hq fg hcM hc'
      · rintro i τ M' k hi ⟨u, v, r, rfl, fg, hw', hc'⟩ hk
        walk_at "z"
        simp only [Int.zero_add, Int.toNat_natCast]
        rw [bit_int]
        refine ⟨Int.natCast_nonneg _, ?_⟩
        have ht' := fg_lget fg ht
        have ap : ∀ M2 : Mp, Fg M' M2 → ∀ x : Int, x = stepF (2 ^ b) bx room fs f i → M2 c = some (.lst (tab i (stepF (2 ^ b) bx room fs f))) → ∀ (τ' : Tau), (∃ u v r, τ' = [some (.ref t), some (.tup [.int bx, .int room, .tup (feedL fs)]), some (.int bx), some (.int room), some (.tup (feedL fs)), some (.ref w), u, v, none, some (.ref c), r, none]) → mthP .append (.ref c) [.int x] M2 fun _ M3 => k τ' M3 := fun M2 f2 x hx h2 τ' ⟨u, v, r, e⟩ => by
          rw [m_app h2]
          refine ⟨by rw [tab_len]; unfold sizeLine; omega, hk _ _ (mu M' c (.lst (tab (i + 1) (stepF (2 ^ b) bx room fs f)))) ?_ ⟨u, v, r, e, fg_mu fg hcM nohid_l, ?_, mu_same⟩⟩
          · rw [hx, tab_snoc]; exact fg_mu2 f2
          · rw [mu_ne hwc]; exact hw'
        have lm : mthO .append (.ref c) M' := by rw [m_lst (.inl rfl) (lget_of hc')]; trivial
        by_cases hbit : i.testBit bx = true
        · obtain ⟨hle, _⟩ := sub_bit hbit
          have hlt : i - 2 ^ bx < 2 ^ b := Nat.lt_of_le_of_lt (Nat.sub_le _ _) hi
          rw [if_pos hbit, if_neg (by decide)]
          refine ⟨⟨Int.natCast_nonneg _, by omega, by decide⟩, lm, ?_⟩
          rw [f_lenr ht', rng1_int, tab_len]
          refine ⟨by have := Int.natCast_nonneg (2 ^ b); unfold smallI; omega, ?_⟩
          have e : (i : Int) - 1 * 2 ^ bx = ((i - 2 ^ bx : Nat) : Int) := by
            rw [Int.natCast_sub hle, Int.natCast_pow, Int.one_mul]; rfl
          rw [Int.toNat_natCast, e]
          show lcP _ _ _ ((List.range (2 ^ b)).map fun o : Nat => PV.int (0 + (o : Int))) [] M'
          refine lc_fm (fun o : Nat => PV.int (0 + (o : Int))) (fun o : Nat => if o &&& (i - 2 ^ bx) = i - 2 ^ bx then some (.int (worth f room fs o)) else none) (List.range (2 ^ b)) [] trivial (by simp; unfold sizeLine; omega) (fun o ho kk hkk => ?_) ?_
          · have ho := List.mem_range.mp ho
            walk_at "z"
            simp only [Int.zero_add]
            rw [os_and]
            by_cases hs : o &&& (i - 2 ^ bx) = i - 2 ^ bx
            · rw [if_pos (by rw [hs]), x_ref (lget_of hw') (tab_at ho)]
              rw [if_pos hs] at hkk
              exact hkk _ Fg.refl
            · rw [if_neg (fun z => hs (Int.natCast_inj.mp z))]
              rw [if_neg hs] at hkk
              exact hkk _ Fg.refl
          · intro q hqn
            have el : (List.range (2 ^ b)).filterMap (fun o : Nat => if o &&& (i - 2 ^ bx) = i - 2 ^ bx then some (PV.int (worth f room fs o)) else none) = (((List.range (2 ^ b)).filter fun o => decide (o &&& (i - 2 ^ bx) = i - 2 ^ bx)).map (worth f room fs)).map PV.int := by
              rw [List.map_map]
              induction (List.range (2 ^ b)) with
              | nil => rfl
              | cons a r ih =>
                rw [List.filterMap_cons, List.filter_cons]
                by_cases h : a &&& (i - 2 ^ bx) = i - 2 ^ bx
                · simp only [h, if_true, decide_true, List.map_cons, ih]; rfl
                · simp only [h, if_false, decide_false, ih]; rfl
            show bltP _ _ _ _
            rw [f_minl (ns := ((List.range (2 ^ b)).filter fun o => decide (o &&& (i - 2 ^ bx) = i - 2 ^ bx)).map (worth f room fs)) (by rw [lget_mu, List.nil_append, el])]
            refine ⟨up_ne hlt, ?_⟩
            refine ap _ (fg_mu Fg.refl hqn nohid_l) _ ?_ ?_ _ ⟨_, _, _, rfl⟩
            · unfold stepF; rw [if_pos hbit]; rfl
            · rw [mu_ne (ne_new hqn hc')]; exact hc'
        · rw [if_neg hbit, if_pos rfl]
          refine ⟨lm, ?_⟩
          rw [x_ref ht' (tab_at hi)]
          exact ap _ Fg.refl _ (by unfold stepF; rw [if_neg hbit]) hc' _ ⟨_, _, _, rfl⟩
    · rintro i τ M' k hi ⟨u, v, rfl, fg, hw'⟩ hk
      walk_at "z"
      simp only [Int.zero_add]
      refine lc_fm (fun f : Int × Int => .tup [.int f.1, .int f.2]) (fun f => if f.1 < 0 ∨ i.testBit f.1.toNat = false then some (.int f.2) else none) fs [] trivial (by simp; unfold sizeLine; omega) (fun g hg kk hkk => ?_) ?_
      · walk_at "z"
        by_cases h0 : g.1 < 0
        · rw [if_pos h0]
          rw [if_pos (.inl h0)] at hkk
          exact hkk _ Fg.refl
        · rw [if_neg h0]
          refine ⟨by omega, ?_⟩
          rw [bit_int]
          by_cases hbit : i.testBit g.1.toNat = true
          · rw [if_pos hbit, if_neg (by decide)]
            rw [if_neg (fun z => z.elim h0 fun z => by rw [hbit] at z; cases z)] at hkk
            exact hkk _ Fg.refl
          · rw [if_neg hbit, if_pos rfl]
            rw [if_pos (.inr (by simpa using hbit))] at hkk
            exact hkk _ Fg.refl
      · intro q hqn
        have el : fs.filterMap (fun f : Int × Int => if f.1 < 0 ∨ i.testBit f.1.toNat = false then some (PV.int f.2) else none) = (fs.filterMap fun f => if f.1 < 0 ∨ i.testBit f.1.toNat = false then some f.2 else none).map PV.int := by
          rw [List.map_filterMap]
          congr 1
          funext f
          split <;> rfl
        show bltP _ _ _ _
        rw [f_suml (ns := fs.filterMap fun f => if f.1 < 0 ∨ i.testBit f.1.toNat = false then some f.2 else none) (by rw [lget_mu, List.nil_append, el])]
        walk_at "z"
        have hwq : w ≠ q := ne_new hqn hw'
        have hqM : M q = none := by
          cases e : M q with
          | none => rfl
          | some o => rw [fg.1 _ _ e] at hqn; cases hqn
        have hw2 : mu M' q (.lst ([] ++ fs.filterMap (fun f : Int × Int => if f.1 < 0 ∨ i.testBit f.1.toNat = false then some (PV.int f.2) else none))) w = some (.lst (tab i (worth f room fs))) := by rw [mu_ne hwq]; exact hw'
        refine ⟨by rw [m_lst (.inl rfl) (lget_of hw2)]; trivial, ?_⟩
        rw [x_ref (by rw [lget_ne (ne_newl hqn (fg_lget fg ht))]; exact fg_lget fg ht) (tab_at hi)]
        walk_at "z"
        rw [m_app hw2]
        refine ⟨by rw [tab_len]; unfold sizeLine; omega, hk _ _ _ Fg.refl ⟨_, _, rfl, fg_mu (fg_mu fg hqM nohid_l) hw nohid_l, ?_⟩⟩
        rw [mu_same]
        show some (MO.lst (tab i (worth f room fs) ++ [.int (worth f room fs i)])) = _
        rw [tab_snoc]
  · exact h.elim
theorem m_law_a_step_todo : True := trivial
end Zd

set_option Elab.async false
set_option linter.all false
set_option maxRecDepth 100000
set_option maxHeartbeats 8000000
/-! Y 8: a drawn step. -/
namespace Zd
open PySem
open L2 (V HO Hp)
local macro_rules | `(tactic| walk_at "z") => `(tactic| simp only [↓s_nil, ↓s_seq, ↓s_pass, ↓s_brk, ↓s_cont, ↓s_expr, ↓s_ret, ↓s_retn, ↓s_ifs, ↓s_asg, ↓s_par, ↓s_aug, ↓s_fors, ↓s_raise, ↓s_try, ↓p_get0, ↓p_getS, ↓e_var, ↓e_int, ↓e_bl, ↓e_non, ↓e_str, ↓e_gl, ↓e_ty, ↓e_bin, ↓e_un, ↓e_cmp, ↓e_chn, ↓e_vand, ↓e_vor, ↓e_vnot, ↓e_ife, ↓e_tup, ↓e_lst, ↓e_ix, ↓e_sl, ↓e_call, ↓e_callK, ↓e_blt, ↓e_mth, w_own0, w_own, w_nil, w_cons, ↓e_lc, ↓e_lc2, ↓e_dc, ↓e_dget, ↓e_dnew, ↓e_mnd, ↓e_dget1, ↓e_lvals, ↓e_fmt, ↓e_js, ↓e_op1, ↓e_op2, ↓i_it1, ↓i_it2, ↓i_it3, ↓s_augx, ↓j_nil, ↓j_cons, ↓fmt_str, ↓fmt_int, ↓strO_str, ↓i_enum, ↓i_zip, ↓enum_t, ↓zip_tt, ↓a_nil, ↓a_cons, ↓o_none, ↓o_some, ↓o_int, ↓t_tt, ↓t_tv, ↓t_cmp, ↓t_chn, ↓t_and, ↓t_or, ↓t_not, ↓ta_one, ↓ta_cons, ↓to_one, ↓to_cons, ↓va_one, ↓va_cons, ↓vo_one, ↓vo_cons, ↓i_seq, ↓i_rng1, ↓i_rng2, ↓rng1_int, ↓rng2_int, ↓seq_tupE, ↓seq_strE, ↓g_nm, ↓g_tup, ↓g_ix, ↓gs_nil, ↓gs_cons, ↓tru_bl, ↓tru_non, ↓tru_int, ↓tru_tup, ↓isBl_bl, ↓b_add, ↓b_adds, ↓b_addt, ↓b_sub, ↓b_mul, ↓b_div, ↓b_mod, ↓b_pow, ↓b_shl, ↓b_shr, ↓b_and, ↓b_or, ↓b_xor, ↓u_neg, ↓u_inv, ↓c_eq, ↓c_eqs, ↓c_eqb, ↓c_ne, ↓c_nes, ↓c_neb, ↓c_lt, ↓c_le, ↓c_gt, ↓c_ge, ↓au_add, ↓au_sub, ↓f_lent, ↓f_lens, ↓f_abs, ↓f_int, ↓f_intb, ↓f_max, ↓f_min, ↓f_tupt, ↓f_listt, ↓f_isi_ii, ↓f_isi_ib, ↓f_isi_it, ↓f_isi_is, ↓f_isi_il, ↓f_isi_tt, ↓f_isi_ti, ↓f_isi_tb, ↓f_isi_ts, ↓f_isi_tl, ↓f_isi_bb, ↓f_isi_bi, ↓f_isi_ss, ↓f_isi_st, ↓f_isi_si, ↓f_isi_sb, ↓f_str, ↓x_tup0, ↓x_tup1, ↓x_tup2, ↓m_bits, ↓m_bits2, decide_eq_true_eq, Bool.true_and, Bool.and_true, Bool.not_true, Bool.not_false, Bool.false_eq_true, if_true, if_false, ite_true, ite_false, true_and, and_true, List.set_cons_zero, List.set_cons_succ, List.length_cons, List.length_nil, decide_true, decide_false, Bool.not_eq_true', decide_eq_false_iff_not, not_true_eq_false, not_false_eq_true, eq_self, reduceIte])
local macro_rules | `(tactic| walk_at "zh") => `(tactic| simp only [↓s_nil, ↓s_seq, ↓s_pass, ↓s_brk, ↓s_cont, ↓s_expr, ↓s_ret, ↓s_retn, ↓s_ifs, ↓s_asg, ↓s_par, ↓s_aug, ↓s_fors, ↓s_raise, ↓s_try, ↓p_get0, ↓p_getS, ↓e_var, ↓e_int, ↓e_bl, ↓e_non, ↓e_str, ↓e_gl, ↓e_ty, ↓e_bin, ↓e_un, ↓e_cmp, ↓e_chn, ↓e_vand, ↓e_vor, ↓e_vnot, ↓e_ife, ↓e_tup, ↓e_lst, ↓e_ix, ↓e_sl, ↓e_call, ↓e_callK, ↓e_blt, ↓e_mth, w_own0, w_own, w_nil, w_cons, ↓e_lc, ↓e_lc2, ↓e_dc, ↓e_dget, ↓e_dnew, ↓e_mnd, ↓e_dget1, ↓e_lvals, ↓e_fmt, ↓e_js, ↓e_op1, ↓e_op2, ↓i_it1, ↓i_it2, ↓i_it3, ↓s_augx, ↓j_nil, ↓j_cons, ↓fmt_str, ↓fmt_int, ↓strO_str, ↓i_enum, ↓i_zip, ↓enum_t, ↓zip_tt, ↓a_nil, ↓a_cons, ↓o_none, ↓o_some, ↓o_int, ↓t_tt, ↓t_tv, ↓t_cmp, ↓t_chn, ↓t_and, ↓t_or, ↓t_not, ↓ta_one, ↓ta_cons, ↓to_one, ↓to_cons, ↓va_one, ↓va_cons, ↓vo_one, ↓vo_cons, ↓i_seq, ↓i_rng1, ↓i_rng2, ↓rng1_int, ↓rng2_int, ↓seq_tupE, ↓seq_strE, ↓g_nm, ↓g_tup, ↓g_ix, ↓gs_nil, ↓gs_cons, ↓tru_bl, ↓tru_non, ↓tru_int, ↓tru_tup, ↓isBl_bl, ↓b_add, ↓b_adds, ↓b_addt, ↓b_sub, ↓b_mul, ↓b_div, ↓b_mod, ↓b_pow, ↓b_shl, ↓b_shr, ↓b_and, ↓b_or, ↓b_xor, ↓u_neg, ↓u_inv, ↓c_eq, ↓c_eqs, ↓c_eqb, ↓c_ne, ↓c_nes, ↓c_neb, ↓c_lt, ↓c_le, ↓c_gt, ↓c_ge, ↓au_add, ↓au_sub, ↓f_lent, ↓f_lens, ↓f_abs, ↓f_int, ↓f_intb, ↓f_max, ↓f_min, ↓f_tupt, ↓f_listt, ↓f_isi_ii, ↓f_isi_ib, ↓f_isi_it, ↓f_isi_is, ↓f_isi_il, ↓f_isi_tt, ↓f_isi_ti, ↓f_isi_tb, ↓f_isi_ts, ↓f_isi_tl, ↓f_isi_bb, ↓f_isi_bi, ↓f_isi_ss, ↓f_isi_st, ↓f_isi_si, ↓f_isi_sb, ↓f_str, ↓x_tup0, ↓x_tup1, ↓x_tup2, ↓m_bits, ↓m_bits2, decide_eq_true_eq, Bool.true_and, Bool.and_true, Bool.not_true, Bool.not_false, Bool.false_eq_true, if_true, if_false, ite_true, ite_false, true_and, and_true, List.set_cons_zero, List.set_cons_succ, List.length_cons, List.length_nil, decide_true, decide_false, Bool.not_eq_true', decide_eq_false_iff_not, not_true_eq_false, not_false_eq_true, eq_self, reduceIte, *])

def sp_law_a_step : ZSp := fun xs M Q E => match xs with
  | [.ref p, .int boxes, .int most] => ∃ b : Nat, (Pool M p ∧ boxes = (b : Nat) ∧ 1 ≤ b ∧ b ≤ 20 ∧ 1 ≤ most ∧ most < 2 ^ 249) ∧ ∀ s : Stp, StpOk b s → Q (stpP s) M
  | _ => False
/-! _law_a_step : 0 pool, 1 boxes, 2 most, 3 box, 4 room, 5 some, 6 feeds, 7 source -/
def N_law_a_step : List Str := [Str.ofString "pool", Str.ofString "boxes", Str.ofString "most", Str.ofString "box", Str.ofString "room", Str.ofString "some", Str.ofString "feeds", Str.ofString "source"]
def ps_law_a_step : List Str := [Str.ofString "pool", Str.ofString "boxes", Str.ofString "most"]
def b_law_a_step : ZS :=
  (.seq (.asg (.nm 3) (.call (Str.ofString "_law_draw") 2 sp_law_draw (.cons (.var 0) (.cons (.var 1) .nil)))) <|
  (.seq (.asg (.nm 4) (.call (Str.ofString "_law_number") 2 sp_law_number (.cons (.var 0) (.cons (.var 2) .nil)))) <|
  (.seq (.asg (.nm 5) (.call (Str.ofString "_law_draw") 2 sp_law_draw (.cons (.var 0) (.cons (.int 6) .nil)))) <|
  (.seq (.asg (.nm 6) (.lst .nil)) <|
  (.seq (.fors (.nm 7) (.rng2 (.un .USub (.int 1)) (.var 1))
    (.seq (.ifs (.or (.cons (.cmp .Eq (.var 5) (.int 0)) (.one (.and (.cons (.cmp .Gt (.var 5) (.int 1)) (.one (.cmp .Lt (.call (Str.ofString "_law_draw") 2 sp_law_draw (.cons (.var 0) (.cons (.int 5) .nil))) (.int 2))))))))
      (.seq (.expr (.mth .append (.var 6) (.cons (.tup (.cons (.var 7) (.cons (.bin .Add (.int 1) (.call (Str.ofString "_law_number") 2 sp_law_number (.cons (.var 0) (.cons (.bin .Sub (.var 2) (.int 1)) .nil)))) .nil))) .nil))) <|
      .nil)
      .nil) <|
    .nil)) <|
  (.seq (.ret (.tup (.cons (.var 3) (.cons (.var 4) (.cons (.blt .tuple (.cons (.var 6) .nil)) .nil))))) <|
  .nil))))))

theorem m_law_a_step : Meets 8 3 (wpS b_law_a_step) sp_law_a_step := by
  intro xs M Q E h
  unfold sp_law_a_step at h
  split at h
  · rename_i p boxes most
    obtain ⟨b, ⟨hp, rfl, h1, hb, hm1, hm2⟩, hq⟩ := h
    refine ⟨rfl, ?_⟩
    show wpS b_law_a_step _ _ [some (.ref p), some (.int b), some (.int most), none, none, none, none, none] M
    unfold b_law_a_step
    walk_at "z"
    refine ⟨⟨hp, by omega⟩, fun box hbox hbox2 => ?_⟩
    walk_at "z"
    refine ⟨⟨hp, by omega, by omega⟩, fun room hr1 hr2 => ?_⟩
    walk_at "z"
    refine ⟨⟨hp, by decide⟩, fun sm hs1 hs2 => ?_⟩
    walk_at "z"
    refine ⟨Nat.zero_le _, fun f hf => ⟨⟨by unfold smallI; omega, by unfold smallI; omega⟩, ?_⟩⟩
    have hbx : ∃ bx : Nat, box = (bx : Nat) ∧ bx < b := ⟨box.toNat, by omega, by omega⟩
    obtain ⟨bx, rfl, hbx⟩ := hbx
    refine for_rng (fun i τ M' => ∃ (u : Option PV) (fs : List (Int × Int)), τ = [some (.ref p), some (.int b), some (.int most), some (.int bx), some (.int room), some (.int sm), some (.ref f), u] ∧ Fg M M' ∧ M' f = some (.lst (feedL fs)) ∧ (∀ g ∈ fs, g.1 < -1 + (i : Int)) ∧ (fs.map (·.1)).Nodup ∧ fs.length ≤ i) _ (-1) (fun _ => trivial) ?_ ?_ _ _ ⟨none, [], rfl, fg_mu Fg.refl hf nohid_l, mu_same, fun g h => (nomatch h), List.nodup_nil, Nat.le_refl _⟩
    · rintro τ M' ⟨u, fs, rfl, fg, hf', _, nd, hl⟩
      walk_at "z"
      rw [f_tupl (lget_of hf')]
      refine ⟨by decide, dropQ_of fg (hq (bx, room, fs) ⟨hbx, nd, ?_⟩)⟩
      show fs.length ≤ 1000
      omega
    · rintro i τ M' k hi ⟨u, fs, rfl, fg, hf', hlt, nd, hl⟩ hk
      have skip : ∀ u, k [some (.ref p), some (.int b), some (.int most), some (.int bx), some (.int room), some (.int sm), some (.ref f), u] M' := fun u => hk _ _ _ Fg.refl ⟨u, fs, rfl, fg, hf', fun g hg => by have := hlt g hg; omega, nd, by omega⟩
      have app : ∀ u (x : Int), mthP .append (.ref f) [.tup [.int (-1 + (i : Int)), .int x]] M' fun _ M1 => k [some (.ref p), some (.int b), some (.int most), some (.int bx), some (.int room), some (.int sm), some (.ref f), u] M1 := fun u x => by
        rw [m_app hf']
        refine ⟨by rw [List.length_map]; unfold sizeLine; omega, hk _ _ _ Fg.refl ⟨u, fs ++ [(-1 + (i : Int), x)], rfl, fg_mu fg hf nohid_l, by rw [mu_same]; simp, fun g hg => ?_, ?_, by rw [List.length_append]; simp; omega⟩⟩
        · rcases List.mem_append.mp hg with h | h
          · have := hlt g h; omega
          · have h := List.mem_singleton.mp h; subst h; show (-1 + (i : Int)) < _; omega
        · rw [List.map_append, List.nodup_append]
          refine ⟨nd, by simp, ?_⟩
          intro a ha b' hb' e
          obtain ⟨g, hg, rfl⟩ := List.mem_map.mp ha
          have hb' : b' = -1 + (i : Int) := by simpa using hb'
          have := hlt g hg
          omega
      have lm : mthO .append (.ref f) M' := by rw [m_lst (.inl rfl) (lget_of hf')]; trivial
      have hp' := hp.fg fg
      walk_at "z"
      by_cases c0 : sm = 0
      · rw [if_pos c0]
        refine ⟨lm, ⟨hp', by omega, by omega⟩, fun x _ _ => ?_⟩
        walk_at "z"
        exact ⟨by decide, app _ _⟩
      · rw [if_neg c0]
        by_cases c1 : 1 < sm
        · rw [if_pos c1]
          refine ⟨⟨hp', by decide⟩, fun y _ _ => ?_⟩
          walk_at "z"
          by_cases c2 : y < 2
          · rw [if_pos c2]
            refine ⟨lm, ⟨hp', by omega, by omega⟩, fun x _ _ => ?_⟩
            walk_at "z"
            exact ⟨by decide, app _ _⟩
          · rw [if_neg c2]
            exact skip _
        · rw [if_neg c1]
          exact skip _
  · exact h.elim
end Zd

set_option Elab.async false
set_option linter.all false
set_option maxRecDepth 100000
set_option maxHeartbeats 8000000
namespace Zd
open PySem
open L2 (V HO Hp)
local macro_rules | `(tactic| walk_at "z") => `(tactic| simp only [↓s_nil, ↓s_seq, ↓s_pass, ↓s_brk, ↓s_cont, ↓s_expr, ↓s_ret, ↓s_retn, ↓s_ifs, ↓s_asg, ↓s_par, ↓s_aug, ↓s_fors, ↓s_raise, ↓s_try, ↓p_get0, ↓p_getS, ↓e_var, ↓e_int, ↓e_bl, ↓e_non, ↓e_str, ↓e_gl, ↓e_ty, ↓e_bin, ↓e_un, ↓e_cmp, ↓e_chn, ↓e_vand, ↓e_vor, ↓e_vnot, ↓e_ife, ↓e_tup, ↓e_lst, ↓e_ix, ↓e_sl, ↓e_call, ↓e_callK, ↓e_blt, ↓e_mth, w_own0, w_own, w_nil, w_cons, ↓e_lc, ↓e_lc2, ↓e_dc, ↓e_dget, ↓e_dnew, ↓e_mnd, ↓e_dget1, ↓e_lvals, ↓e_fmt, ↓e_js, ↓e_op1, ↓e_op2, ↓i_it1, ↓i_it2, ↓i_it3, ↓s_augx, ↓j_nil, ↓j_cons, ↓fmt_str, ↓fmt_int, ↓strO_str, ↓i_enum, ↓i_zip, ↓enum_t, ↓zip_tt, ↓a_nil, ↓a_cons, ↓o_none, ↓o_some, ↓o_int, ↓t_tt, ↓t_tv, ↓t_cmp, ↓t_chn, ↓t_and, ↓t_or, ↓t_not, ↓ta_one, ↓ta_cons, ↓to_one, ↓to_cons, ↓va_one, ↓va_cons, ↓vo_one, ↓vo_cons, ↓i_seq, ↓i_rng1, ↓i_rng2, ↓rng1_int, ↓rng2_int, ↓seq_tupE, ↓seq_strE, ↓g_nm, ↓g_tup, ↓g_ix, ↓gs_nil, ↓gs_cons, ↓tru_bl, ↓tru_non, ↓tru_int, ↓tru_tup, ↓isBl_bl, ↓b_add, ↓b_adds, ↓b_addt, ↓b_sub, ↓b_mul, ↓b_div, ↓b_mod, ↓b_pow, ↓b_shl, ↓b_shr, ↓b_and, ↓b_or, ↓b_xor, ↓u_neg, ↓u_inv, ↓c_eq, ↓c_eqs, ↓c_eqb, ↓c_ne, ↓c_nes, ↓c_neb, ↓c_lt, ↓c_le, ↓c_gt, ↓c_ge, ↓au_add, ↓au_sub, ↓f_lent, ↓f_lens, ↓f_abs, ↓f_int, ↓f_intb, ↓f_max, ↓f_min, ↓f_tupt, ↓f_listt, ↓f_isi_ii, ↓f_isi_ib, ↓f_isi_it, ↓f_isi_is, ↓f_isi_il, ↓f_isi_tt, ↓f_isi_ti, ↓f_isi_tb, ↓f_isi_ts, ↓f_isi_tl, ↓f_isi_bb, ↓f_isi_bi, ↓f_isi_ss, ↓f_isi_st, ↓f_isi_si, ↓f_isi_sb, ↓f_str, ↓x_tup0, ↓x_tup1, ↓x_tup2, ↓m_bits, ↓m_bits2, decide_eq_true_eq, Bool.true_and, Bool.and_true, Bool.not_true, Bool.not_false, Bool.false_eq_true, if_true, if_false, ite_true, ite_false, true_and, and_true, List.set_cons_zero, List.set_cons_succ, List.length_cons, List.length_nil, decide_true, decide_false, Bool.not_eq_true', decide_eq_false_iff_not, not_true_eq_false, not_false_eq_true, eq_self, reduceIte])
local macro_rules | `(tactic| walk_at "zh") => `(tactic| simp only [↓s_nil, ↓s_seq, ↓s_pass, ↓s_brk, ↓s_cont, ↓s_expr, ↓s_ret, ↓s_retn, ↓s_ifs, ↓s_asg, ↓s_par, ↓s_aug, ↓s_fors, ↓s_raise, ↓s_try, ↓p_get0, ↓p_getS, ↓e_var, ↓e_int, ↓e_bl, ↓e_non, ↓e_str, ↓e_gl, ↓e_ty, ↓e_bin, ↓e_un, ↓e_cmp, ↓e_chn, ↓e_vand, ↓e_vor, ↓e_vnot, ↓e_ife, ↓e_tup, ↓e_lst, ↓e_ix, ↓e_sl, ↓e_call, ↓e_callK, ↓e_blt, ↓e_mth, w_own0, w_own, w_nil, w_cons, ↓e_lc, ↓e_lc2, ↓e_dc, ↓e_dget, ↓e_dnew, ↓e_mnd, ↓e_dget1, ↓e_lvals, ↓e_fmt, ↓e_js, ↓e_op1, ↓e_op2, ↓i_it1, ↓i_it2, ↓i_it3, ↓s_augx, ↓j_nil, ↓j_cons, ↓fmt_str, ↓fmt_int, ↓strO_str, ↓i_enum, ↓i_zip, ↓enum_t, ↓zip_tt, ↓a_nil, ↓a_cons, ↓o_none, ↓o_some, ↓o_int, ↓t_tt, ↓t_tv, ↓t_cmp, ↓t_chn, ↓t_and, ↓t_or, ↓t_not, ↓ta_one, ↓ta_cons, ↓to_one, ↓to_cons, ↓va_one, ↓va_cons, ↓vo_one, ↓vo_cons, ↓i_seq, ↓i_rng1, ↓i_rng2, ↓rng1_int, ↓rng2_int, ↓seq_tupE, ↓seq_strE, ↓g_nm, ↓g_tup, ↓g_ix, ↓gs_nil, ↓gs_cons, ↓tru_bl, ↓tru_non, ↓tru_int, ↓tru_tup, ↓isBl_bl, ↓b_add, ↓b_adds, ↓b_addt, ↓b_sub, ↓b_mul, ↓b_div, ↓b_mod, ↓b_pow, ↓b_shl, ↓b_shr, ↓b_and, ↓b_or, ↓b_xor, ↓u_neg, ↓u_inv, ↓c_eq, ↓c_eqs, ↓c_eqb, ↓c_ne, ↓c_nes, ↓c_neb, ↓c_lt, ↓c_le, ↓c_gt, ↓c_ge, ↓au_add, ↓au_sub, ↓f_lent, ↓f_lens, ↓f_abs, ↓f_int, ↓f_intb, ↓f_max, ↓f_min, ↓f_tupt, ↓f_listt, ↓f_isi_ii, ↓f_isi_ib, ↓f_isi_it, ↓f_isi_is, ↓f_isi_il, ↓f_isi_tt, ↓f_isi_ti, ↓f_isi_tb, ↓f_isi_ts, ↓f_isi_tl, ↓f_isi_bb, ↓f_isi_bi, ↓f_isi_ss, ↓f_isi_st, ↓f_isi_si, ↓f_isi_sb, ↓f_str, ↓x_tup0, ↓x_tup1, ↓x_tup2, ↓m_bits, ↓m_bits2, decide_eq_true_eq, Bool.true_and, Bool.and_true, Bool.not_true, Bool.not_false, Bool.false_eq_true, if_true, if_false, ite_true, ite_false, true_and, and_true, List.set_cons_zero, List.set_cons_succ, List.length_cons, List.length_nil, decide_true, decide_false, Bool.not_eq_true', decide_eq_false_iff_not, not_true_eq_false, not_false_eq_true, eq_self, reduceIte, *])
/-! Y 9: a drawn step in full; books as values; the same of nested tuples. -/
def StpIn (b : Nat) (most : Int) (s : Stp) : Prop := s.1 < b ∧ 0 ≤ s.2.1 ∧ s.2.1 ≤ most ∧ (s.2.2.map (·.1)).Nodup ∧ s.2.2.length ≤ b + 1 ∧ ∀ g ∈ s.2.2, -1 ≤ g.1 ∧ g.1 < b ∧ 1 ≤ g.2 ∧ g.2 ≤ most
def sp_law_a_step2 : ZSp := fun xs M Q E => match xs with
  | [.ref p, .int boxes, .int most] => ∃ b : Nat, (Pool M p ∧ boxes = (b : Nat) ∧ 1 ≤ b ∧ b ≤ 20 ∧ 1 ≤ most ∧ most < 2 ^ 249) ∧ ∀ s : Stp, StpIn b most s → Q (stpP s) M
  | _ => False
theorem m_law_a_step2 : Meets 8 3 (wpS b_law_a_step) sp_law_a_step2 := by
  intro xs M Q E h
  unfold sp_law_a_step2 at h
  split at h
  · rename_i p boxes most
    obtain ⟨b, ⟨hp, rfl, h1, hb, hm1, hm2⟩, hq⟩ := h
    refine ⟨rfl, ?_⟩
    show wpS b_law_a_step _ _ [some (.ref p), some (.int b), some (.int most), none, none, none, none, none] M
    unfold b_law_a_step
    walk_at "z"
    refine ⟨⟨hp, by omega⟩, fun box hbox hbox2 => ?_⟩
    walk_at "z"
    refine ⟨⟨hp, by omega, by omega⟩, fun room hr1 hr2 => ?_⟩
    walk_at "z"
    refine ⟨⟨hp, by decide⟩, fun sm hs1 hs2 => ?_⟩
    walk_at "z"
    refine ⟨Nat.zero_le _, fun f hf => ⟨⟨by unfold smallI; omega, by unfold smallI; omega⟩, ?_⟩⟩
    have hbx : ∃ bx : Nat, box = (bx : Nat) ∧ bx < b := ⟨box.toNat, by omega, by omega⟩
    obtain ⟨bx, rfl, hbx⟩ := hbx
    refine for_rng (fun i τ M' => ∃ (u : Option PV) (fs : List (Int × Int)), τ = [some (.ref p), some (.int b), some (.int most), some (.int bx), some (.int room), some (.int sm), some (.ref f), u] ∧ Fg M M' ∧ M' f = some (.lst (feedL fs)) ∧ (∀ g ∈ fs, g.1 < -1 + (i : Int)) ∧ (∀ g ∈ fs, -1 ≤ g.1 ∧ g.1 < b ∧ 1 ≤ g.2 ∧ g.2 ≤ most) ∧ (fs.map (·.1)).Nodup ∧ fs.length ≤ i) _ (-1) (fun _ => trivial) ?_ ?_ _ _ ⟨none, [], rfl, fg_mu Fg.refl hf nohid_l, mu_same, fun g h => (nomatch h), fun g h => (nomatch h), List.nodup_nil, Nat.le_refl _⟩
    · rintro τ M' ⟨u, fs, rfl, fg, hf', _, hin, nd, hl⟩
      walk_at "z"
      rw [f_tupl (lget_of hf')]
      refine ⟨by decide, dropQ_of fg (hq (bx, room, fs) ⟨hbx, hr1, hr2, nd, ?_, hin⟩)⟩
      show fs.length ≤ b + 1
      omega
    · rintro i τ M' k hi ⟨u, fs, rfl, fg, hf', hlt, hin, nd, hl⟩ hk
      have skip : ∀ u, k [some (.ref p), some (.int b), some (.int most), some (.int bx), some (.int room), some (.int sm), some (.ref f), u] M' := fun u => hk _ _ _ Fg.refl ⟨u, fs, rfl, fg, hf', fun g hg => by have := hlt g hg; omega, hin, nd, by omega⟩
      have app : ∀ u (x : Int), 1 ≤ x → x ≤ most → mthP .append (.ref f) [.tup [.int (-1 + (i : Int)), .int x]] M' fun _ M1 => k [some (.ref p), some (.int b), some (.int most), some (.int bx), some (.int room), some (.int sm), some (.ref f), u] M1 := fun u x hx1 hx2 => by
        rw [m_app hf']
        refine ⟨by rw [List.length_map]; unfold sizeLine; omega, hk _ _ _ Fg.refl ⟨u, fs ++ [(-1 + (i : Int), x)], rfl, fg_mu fg hf nohid_l, by rw [mu_same]; simp, fun g hg => ?_, fun g hg => ?_, ?_, by rw [List.length_append]; simp; omega⟩⟩
        · rcases List.mem_append.mp hg with h | h
          · have := hlt g h; omega
          · have h := List.mem_singleton.mp h; subst h; show (-1 + (i : Int)) < _; omega
        · rcases List.mem_append.mp hg with h | h
          · exact hin g h
          · have h := List.mem_singleton.mp h; subst h; exact ⟨by show -1 ≤ -1 + (i : Int); omega, by show -1 + (i : Int) < b; omega, hx1, hx2⟩
        · rw [List.map_append, List.nodup_append]
          refine ⟨nd, by simp, ?_⟩
          intro a ha b' hb' e
          obtain ⟨g, hg, rfl⟩ := List.mem_map.mp ha
          have hb' : b' = -1 + (i : Int) := by simpa using hb'
          have := hlt g hg
          omega
      have lm : mthO .append (.ref f) M' := by rw [m_lst (.inl rfl) (lget_of hf')]; trivial
      have hp' := hp.fg fg
      walk_at "z"
      by_cases c0 : sm = 0
      · rw [if_pos c0]
        refine ⟨lm, ⟨hp', by omega, by omega⟩, fun x _ _ => ?_⟩
        walk_at "z"
        exact ⟨by decide, app _ _ (by omega) (by omega)⟩
      · rw [if_neg c0]
        by_cases c1 : 1 < sm
        · rw [if_pos c1]
          refine ⟨⟨hp', by decide⟩, fun y _ _ => ?_⟩
          walk_at "z"
          by_cases c2 : y < 2
          · rw [if_pos c2]
            refine ⟨lm, ⟨hp', by omega, by omega⟩, fun x _ _ => ?_⟩
            walk_at "z"
            exact ⟨by decide, app _ _ (by omega) (by omega)⟩
          · rw [if_neg c2]
            exact skip _
        · rw [if_neg c1]
          exact skip _
  · exact h.elim
/-! books -/
abbrev Mov := Str × List Stp × Int
abbrev Sta := Str × List Int × List Mov
abbrev Bok := List Str × List Sta
def movP (m : Mov) : PV := .tup [.str m.1, .tup (m.2.1.map stpP), .int m.2.2]
def staP (s : Sta) : PV := .tup [.str s.1, .tup (s.2.1.map PV.int), .tup (s.2.2.map movP)]
def bokP (b : Bok) : PV := .tup [.tup (b.1.map PV.str), .tup (b.2.map staP)]
theorem atI_map {α : Type} {f : α → PV} {xs : List α} {l : Nat} (h : l < xs.length) : L2.atI (xs.map f) (l : Int) = some (f xs[l]) := atI_ok (by omega) (by simp [h])
theorem enumL_map {α : Type} (f : α → PV) : ∀ (xs : List α) (k : Nat), enumL k (xs.map f) = (xs.zipIdx k).map fun p => PV.tup [.int (p.2 : Nat), f p.1]
  | [], _ => rfl
  | x :: xs, k => by
    rw [List.map_cons, enumL, List.zipIdx_cons, List.map_cons, enumL_map f xs]
theorem paired_map {α β : Type} {e : β → PV} {P : β → Prop} {as : List α} {ys : List PV} (h : Paired (fun (_ : α) y => ∃ s, y = e s ∧ P s) as ys) : ∃ st : List β, ys = st.map e ∧ (∀ s ∈ st, P s) ∧ st.length = as.length := by
  induction h with
  | nil => exact ⟨[], rfl, fun s h => (nomatch h), rfl⟩
  | cons a _ ih =>
    obtain ⟨s, rfl, hs⟩ := a
    obtain ⟨st, rfl, h2, h3⟩ := ih
    exact ⟨s :: st, rfl, fun x hx => by
      rcases List.mem_cons.mp hx with h | h
      · subst h; exact hs
      · exact h2 x h, by rw [List.length_cons, List.length_cons, h3]⟩
theorem f_sortl {p : Addr} {ns : List Int} {M : Mp} {Q : ZQ} (h : lget M p = some (ns.map PV.int)) (hq : ∀ ns' : List Int, ns'.Perm ns → ns'.Pairwise (· ≤ ·) → allocL Q (ns'.map PV.int) M) : bltP .sorted [.ref p] M Q := by
  show (match (lget M p).bind zints with | some ns => _ | none => _)
  rw [h, Option.bind_some, zints_map]
  exact hq
theorem f_sortp {p : Addr} {ps : List (Int × Int)} {M : Mp} {Q : ZQ} (h : lget M p = some (ps.map pairI)) (hq : ∀ ps' : List (Int × Int), ps'.Perm ps → ps'.Pairwise lexLe → allocL Q (ps'.map pairI) M) : bltP .sorted [.ref p] M Q := by
  cases ps with
  | nil =>
    refine f_sortl (ns := []) h fun ns' h1 _ => ?_
    rw [List.Perm.eq_nil h1]
    exact hq [] (List.Perm.refl _) List.Pairwise.nil
  | cons q r =>
    show (match (lget M p).bind zints with | some ns => _ | none => match (lget M p).bind zpairs with | some ps => _ | none => False)
    rw [h, Option.bind_some, Option.bind_some, zpairs_map]
    exact hq
def srt (ns : List Int) : List Int := ns.mergeSort (fun a b => decide (a ≤ b))
theorem srt_perm (ns : List Int) : (srt ns).Perm ns := List.mergeSort_perm _ _
theorem srt_pair (ns : List Int) : (srt ns).Pairwise (· ≤ ·) := by
  have := List.pairwise_mergeSort (le := fun a b : Int => decide (a ≤ b)) (fun a b c h h' => by simp at *; omega) (fun a b => by simp; omega) ns
  exact this.imp fun h => by simpa using h
theorem srt_eq {ns ns' : List Int} (h : ns'.Perm ns) (s : ns'.Pairwise (· ≤ ·)) : ns' = srt ns := by
  refine List.Perm.eq_of_pairwise (le := (· ≤ ·)) (fun a b _ _ h1 h2 => Int.le_antisymm h1 h2) s (srt_pair ns) (h.trans (srt_perm ns).symm)
/-! plain values: ints, texts, tuples of such -/
mutual
def psize : PV → Nat
  | .tup xs => 1 + psizes xs
  | _ => 1
def psizes : List PV → Nat
  | [] => 0
  | x :: r => psize x + psizes r
end
mutual
def plain : PV → Bool
  | .int _ => true
  | .str _ => true
  | .tup xs => plains xs
  | _ => false
def plains : List PV → Bool
  | [] => true
  | x :: r => plain x && plains r
end
theorem plains_all : ∀ {xs : List PV}, plains xs = true ↔ ∀ x ∈ xs, plain x = true
  | [] => by simp [plains]
  | x :: r => by simp [plains, plains_all (xs := r)]
theorem psizes_app : ∀ (xs ys : List PV), psizes (xs ++ ys) = psizes xs + psizes ys
  | [], ys => by simp [psizes]
  | x :: r, ys => by simp [psizes, psizes_app r ys]; omega
theorem psize_pos (x : PV) : 1 ≤ psize x := by
  cases x <;> simp [psize]
theorem len_psizes : ∀ xs : List PV, xs.length ≤ psizes xs
  | [] => by simp [psizes]
  | x :: r => by have := len_psizes r; have := psize_pos x; simp [psizes]; omega
theorem psizes_take (xs : List PV) (n : Nat) : psizes (xs.take n) ≤ psizes xs := by
  have := psizes_app (xs.take n) (xs.drop n)
  rw [List.take_append_drop] at this
  omega
theorem psizes_map {α : Type} {f : α → PV} {c : Nat} : ∀ {xs : List α}, (∀ x ∈ xs, psize (f x) ≤ c) → psizes (xs.map f) ≤ xs.length * c
  | [], _ => by simp [psizes]
  | x :: r, h => by
    have h1 := h x List.mem_cons_self
    have h2 := psizes_map (f := f) (c := c) (xs := r) fun y hy => h y (List.mem_cons_of_mem _ hy)
    rw [List.map_cons, psizes, List.length_cons, Nat.succ_mul]
    omega
theorem m_pop {M : Mp} {p : Addr} {ini : List PV} {y : PV} {Q : ZQ} (h : M p = some (.lst (ini ++ [y]))) : mthP .pop (.ref p) [] M Q = Q y (mu M p (.lst ini)) := by
  show (match M p with | some (.lst ys) => _ | _ => False) = _
  rw [h]
  simp only [List.getLast?_concat, List.dropLast_concat]

end Zd

set_option Elab.async false
set_option linter.all false
set_option maxRecDepth 100000
set_option maxHeartbeats 8000000
namespace Zd
open PySem
open L2 (V HO Hp)
local macro_rules | `(tactic| walk_at "z") => `(tactic| simp only [↓s_nil, ↓s_seq, ↓s_pass, ↓s_brk, ↓s_cont, ↓s_expr, ↓s_ret, ↓s_retn, ↓s_ifs, ↓s_asg, ↓s_par, ↓s_aug, ↓s_fors, ↓s_raise, ↓s_try, ↓p_get0, ↓p_getS, ↓e_var, ↓e_int, ↓e_bl, ↓e_non, ↓e_str, ↓e_gl, ↓e_ty, ↓e_bin, ↓e_un, ↓e_cmp, ↓e_chn, ↓e_vand, ↓e_vor, ↓e_vnot, ↓e_ife, ↓e_tup, ↓e_lst, ↓e_ix, ↓e_sl, ↓e_call, ↓e_callK, ↓e_blt, ↓e_mth, w_own0, w_own, w_nil, w_cons, ↓e_lc, ↓e_lc2, ↓e_dc, ↓e_dget, ↓e_dnew, ↓e_mnd, ↓e_dget1, ↓e_lvals, ↓e_fmt, ↓e_js, ↓e_op1, ↓e_op2, ↓i_it1, ↓i_it2, ↓i_it3, ↓s_augx, ↓j_nil, ↓j_cons, ↓fmt_str, ↓fmt_int, ↓strO_str, ↓i_enum, ↓i_zip, ↓enum_t, ↓zip_tt, ↓a_nil, ↓a_cons, ↓o_none, ↓o_some, ↓o_int, ↓t_tt, ↓t_tv, ↓t_cmp, ↓t_chn, ↓t_and, ↓t_or, ↓t_not, ↓ta_one, ↓ta_cons, ↓to_one, ↓to_cons, ↓va_one, ↓va_cons, ↓vo_one, ↓vo_cons, ↓i_seq, ↓i_rng1, ↓i_rng2, ↓rng1_int, ↓rng2_int, ↓seq_tupE, ↓seq_strE, ↓g_nm, ↓g_tup, ↓g_ix, ↓gs_nil, ↓gs_cons, ↓tru_bl, ↓tru_non, ↓tru_int, ↓tru_tup, ↓isBl_bl, ↓b_add, ↓b_adds, ↓b_addt, ↓b_sub, ↓b_mul, ↓b_div, ↓b_mod, ↓b_pow, ↓b_shl, ↓b_shr, ↓b_and, ↓b_or, ↓b_xor, ↓u_neg, ↓u_inv, ↓c_eq, ↓c_eqs, ↓c_eqb, ↓c_ne, ↓c_nes, ↓c_neb, ↓c_lt, ↓c_le, ↓c_gt, ↓c_ge, ↓au_add, ↓au_sub, ↓f_lent, ↓f_lens, ↓f_abs, ↓f_int, ↓f_intb, ↓f_max, ↓f_min, ↓f_tupt, ↓f_listt, ↓f_isi_ii, ↓f_isi_ib, ↓f_isi_it, ↓f_isi_is, ↓f_isi_il, ↓f_isi_tt, ↓f_isi_ti, ↓f_isi_tb, ↓f_isi_ts, ↓f_isi_tl, ↓f_isi_bb, ↓f_isi_bi, ↓f_isi_ss, ↓f_isi_st, ↓f_isi_si, ↓f_isi_sb, ↓f_str, ↓x_tup0, ↓x_tup1, ↓x_tup2, ↓m_bits, ↓m_bits2, decide_eq_true_eq, Bool.true_and, Bool.and_true, Bool.not_true, Bool.not_false, Bool.false_eq_true, if_true, if_false, ite_true, ite_false, true_and, and_true, List.set_cons_zero, List.set_cons_succ, List.length_cons, List.length_nil, decide_true, decide_false, Bool.not_eq_true', decide_eq_false_iff_not, not_true_eq_false, not_false_eq_true, eq_self, reduceIte])
local macro_rules | `(tactic| walk_at "zh") => `(tactic| simp only [↓s_nil, ↓s_seq, ↓s_pass, ↓s_brk, ↓s_cont, ↓s_expr, ↓s_ret, ↓s_retn, ↓s_ifs, ↓s_asg, ↓s_par, ↓s_aug, ↓s_fors, ↓s_raise, ↓s_try, ↓p_get0, ↓p_getS, ↓e_var, ↓e_int, ↓e_bl, ↓e_non, ↓e_str, ↓e_gl, ↓e_ty, ↓e_bin, ↓e_un, ↓e_cmp, ↓e_chn, ↓e_vand, ↓e_vor, ↓e_vnot, ↓e_ife, ↓e_tup, ↓e_lst, ↓e_ix, ↓e_sl, ↓e_call, ↓e_callK, ↓e_blt, ↓e_mth, w_own0, w_own, w_nil, w_cons, ↓e_lc, ↓e_lc2, ↓e_dc, ↓e_dget, ↓e_dnew, ↓e_mnd, ↓e_dget1, ↓e_lvals, ↓e_fmt, ↓e_js, ↓e_op1, ↓e_op2, ↓i_it1, ↓i_it2, ↓i_it3, ↓s_augx, ↓j_nil, ↓j_cons, ↓fmt_str, ↓fmt_int, ↓strO_str, ↓i_enum, ↓i_zip, ↓enum_t, ↓zip_tt, ↓a_nil, ↓a_cons, ↓o_none, ↓o_some, ↓o_int, ↓t_tt, ↓t_tv, ↓t_cmp, ↓t_chn, ↓t_and, ↓t_or, ↓t_not, ↓ta_one, ↓ta_cons, ↓to_one, ↓to_cons, ↓va_one, ↓va_cons, ↓vo_one, ↓vo_cons, ↓i_seq, ↓i_rng1, ↓i_rng2, ↓rng1_int, ↓rng2_int, ↓seq_tupE, ↓seq_strE, ↓g_nm, ↓g_tup, ↓g_ix, ↓gs_nil, ↓gs_cons, ↓tru_bl, ↓tru_non, ↓tru_int, ↓tru_tup, ↓isBl_bl, ↓b_add, ↓b_adds, ↓b_addt, ↓b_sub, ↓b_mul, ↓b_div, ↓b_mod, ↓b_pow, ↓b_shl, ↓b_shr, ↓b_and, ↓b_or, ↓b_xor, ↓u_neg, ↓u_inv, ↓c_eq, ↓c_eqs, ↓c_eqb, ↓c_ne, ↓c_nes, ↓c_neb, ↓c_lt, ↓c_le, ↓c_gt, ↓c_ge, ↓au_add, ↓au_sub, ↓f_lent, ↓f_lens, ↓f_abs, ↓f_int, ↓f_intb, ↓f_max, ↓f_min, ↓f_tupt, ↓f_listt, ↓f_isi_ii, ↓f_isi_ib, ↓f_isi_it, ↓f_isi_is, ↓f_isi_il, ↓f_isi_tt, ↓f_isi_ti, ↓f_isi_tb, ↓f_isi_ts, ↓f_isi_tl, ↓f_isi_bb, ↓f_isi_bi, ↓f_isi_ss, ↓f_isi_st, ↓f_isi_si, ↓f_isi_sb, ↓f_str, ↓x_tup0, ↓x_tup1, ↓x_tup2, ↓m_bits, ↓m_bits2, decide_eq_true_eq, Bool.true_and, Bool.and_true, Bool.not_true, Bool.not_false, Bool.false_eq_true, if_true, if_false, ite_true, ite_false, true_and, and_true, List.set_cons_zero, List.set_cons_succ, List.length_cons, List.length_nil, decide_true, decide_false, Bool.not_eq_true', decide_eq_false_iff_not, not_true_eq_false, not_false_eq_true, eq_self, reduceIte, *])
/-! Y 10: small things that many laws use. -/
theorem pow_shl (b : Nat) : (1 : Int) * 2 ^ ((b : Int)).toNat = ((2 ^ b : Nat) : Int) := by rw [Int.toNat_natCast, Int.one_mul, Int.natCast_pow]; rfl
theorem strE (x : Str) : Str.empty ++ x = x := by
  show Str.append Str.empty x = x
  unfold Str.append Str.empty
  simp
theorem str_len (x y : Str) : (x ++ y).length = x.length + y.length := by
  show (Str.append x y).length = _
  unfold Str.append Str.length
  simp
theorem num_len {n : Int} (h0 : 0 ≤ n) (h : n < 10 ^ 6) : (Str.ofString (toString n)).length ≤ 6 := PyProof.Rows.toString_length_le h0 (by decide) h
theorem num_log {n : Int} (h0 : 0 ≤ n) (h : n < 10 ^ 6) : n.natAbs.log2 < 1920 := by
  have h1 : n.natAbs < 2 ^ 20 := by omega
  by_cases hz : n.natAbs = 0
  · rw [hz]; decide
  · have := (Nat.log2_lt hz).mpr h1
    omega
theorem atI_get {α : Type} {f : α → PV} {xs : List α} {l : Nat} {x : α} (h : xs[l]? = some x) : L2.atI (xs.map f) (l : Int) = some (f x) := atI_ok (by omega) (by simp [h])
theorem k_of {I : Tau → Mp → Prop} {k : Tau → Mp → Prop} (hk : ∀ τ' M' M2, Fg M2 M' → I τ' M2 → k τ' M') {τ : Tau} {M : Mp} (h : I τ M) : k τ M := hk τ M M Fg.refl h
theorem fg_none {M M' : Mp} {q : Addr} (f : Fg M M') (h : M' q = none) : M q = none := by
  cases e : M q with
  | none => rfl
  | some o => rw [f.1 _ _ e] at h; cases h
theorem fg_new {M M' : Mp} {q : Addr} {o : MO} (f : Fg M M') (h : M' q = none) (ho : ∀ b, o ≠ .hid b) : Fg M (mu M' q o) := fg_mu f (fg_none f h) ho
theorem at_new {M' : Mp} {p q : Addr} {o o' : MO} (hq : M' q = none) (h : M' p = some o) : (mu M' q o') p = some o := by rw [mu_ne (ne_new hq h)]; exact h
theorem at_ne {M' : Mp} {p q : Addr} {o o' : MO} (hn : p ≠ q) (h : M' p = some o) : (mu M' q o') p = some o := by rw [mu_ne hn]; exact h
theorem x_str {z : Str} {k : Int} {c : Nat} {M : Mp} {Q : ZQ} (h : z.length ≤ sizeLine) (h2 : L2.atI z.cps.toList k = some c) : ixP (.str z) (.int k) M Q = Q (.str ⟨#[c]⟩) M := by
  show (_ ∧ match L2.atI z.cps.toList k with | some c => _ | none => False) = _
  rw [h2]
  simp [h]
theorem atI_ex {α : Type} {xs : List α} {k : Int} (h0 : 0 ≤ k) (h1 : k.toNat < xs.length) : ∃ z, L2.atI xs k = some z ∧ z ∈ xs := ⟨xs[k.toNat], atI_ok h0 (by simp [h1]), List.getElem_mem _⟩
abbrev movE (m : Mov) : PV := .tup [.str m.1, .tup (m.2.1.map stpP), .int m.2.2]
abbrev staE (s : Sta) : PV := .tup [.str s.1, .tup (s.2.1.map PV.int), .tup (s.2.2.map movP)]
abbrev bokE (b : Bok) : PV := .tup [.tup (b.1.map PV.str), .tup (b.2.map staP)]
theorem atI_sta {ss : List Sta} {l : Nat} {s : Sta} (h : ss[l]? = some s) : L2.atI (ss.map staP) (l : Int) = some (staE s) := atI_get h
theorem atI_mov {ss : List Mov} {l : Nat} {s : Mov} (h : ss[l]? = some s) : L2.atI (ss.map movP) (l : Int) = some (movE s) := atI_get h
theorem enum_mov (ms : List Mov) : enumL 0 (ms.map movP) = ms.zipIdx.map (fun p => PV.tup [.int (p.2 : Nat), movE p.1]) := enumL_map movP ms 0
theorem enum_sta (ms : List Sta) : enumL 0 (ms.map staP) = ms.zipIdx.map (fun p => PV.tup [.int (p.2 : Nat), staE p.1]) := enumL_map staP ms 0
theorem zip_at {α : Type} {xs : List α} {p : α × Nat} (h : p ∈ xs.zipIdx) : xs[p.2]? = some p.1 := by
  obtain ⟨a, i⟩ := p
  exact List.mk_mem_zipIdx_iff_getElem?.mp h
theorem mid_mem {α : Type} {pre post as : List α} {x : α} (e : pre ++ x :: post = as) : x ∈ as := by rw [← e]; simp
theorem mid_len {α : Type} {pre post as : List α} {x : α} (e : pre ++ x :: post = as) : pre.length < as.length := by
  have := congrArg List.length e
  rw [List.length_append, List.length_cons] at this
  omega
theorem take_snoc {α : Type} {xs : List α} {i : Nat} {x : α} (h : xs[i]? = some x) : xs.take (i + 1) = xs.take i ++ [x] := by
  rw [List.take_add_one, h]
  rfl
theorem zip_get {α : Type} {xs : List α} {i : Nat} {x : α} (h : xs[i]? = some x) : xs.zipIdx[i]? = some (x, i) := by
  rw [List.getElem?_zipIdx, h]
  simp
theorem get_ex {α : Type} {xs : List α} {i : Nat} (h : i < xs.length) : ∃ x, xs[i]? = some x ∧ x ∈ xs := ⟨xs[i], by simp [h], List.getElem_mem _⟩
theorem c_is_non {M : Mp} {Q : ZQ} : cmpP .Is .non .non M Q = Q (.bl true) M := rfl
theorem c_is_int {M : Mp} {Q : ZQ} {k : Int} : cmpP .Is (.int k) .non M Q = Q (.bl false) M := rfl
theorem c_isn_non {M : Mp} {Q : ZQ} : cmpP .IsNot .non .non M Q = Q (.bl false) M := rfl
theorem c_isn_int {M : Mp} {Q : ZQ} {k : Int} : cmpP .IsNot (.int k) .non M Q = Q (.bl true) M := rfl
theorem minL_snoc {ns : List Int} {x : Int} (h : ns ≠ []) : minL (ns ++ [x]) = if x < minL ns then x else minL ns := by
  have h1 := minL_mem (ns := ns ++ [x]) (by simp)
  have h2 : minL (ns ++ [x]) ≤ x := minL_le (by simp)
  have h3 : minL (ns ++ [x]) ≤ minL ns := minL_le (by simp [minL_mem h])
  rcases List.mem_append.mp h1 with h4 | h4
  · have h5 := minL_le h4
    split <;> omega
  · have h4 := List.mem_singleton.mp h4
    split <;> omega
theorem minL_one (x : Int) : minL [x] = x := by
  have := minL_mem (ns := [x]) (by simp)
  exact List.mem_singleton.mp this
/-- the same of a tuple told and a list or tuple due -/
def sp_law_same3 : ZSp := fun xs M Q E => match xs with
  | [.tup ts, y] => ∃ n f, (ts = tab n f ∧ IsSeq y M (tab n f) ∧ n ≤ 1048576) ∧ Q (.bl true) M
  | _ => False
theorem m_law_same3 : Meets 4 2 (wpS b_law_same) sp_law_same3 := by
  intro xs M Q E h
  unfold sp_law_same3 at h
  split at h
  · rename_i ts y
    obtain ⟨n, f, ⟨rfl, ha, hn⟩, hq⟩ := h
    refine ⟨rfl, ?_⟩
    show wpS b_law_same _ _ [some (.tup _), some y, none, none] M
    unfold b_law_same
    try walk_at "z"
    rw [ha.len]
    try walk_at "z"
    rw [ha.len, rng1_int, tab_len]
    refine ⟨by unfold smallI; omega, ?_⟩
    rw [Int.toNat_natCast]
    refine for_rng (fun i τ M' => ∃ u v, τ = [some (.tup (tab n f)), some y, u, v] ∧ M' = M) n 0 (fun _ => trivial) ?_ ?_ _ _ ⟨none, none, rfl, rfl⟩
    · rintro τ M' ⟨u, v, rfl, rfl⟩
      exact dropQ_id hq
    · rintro i τ M' k hi ⟨u, v, rfl, rfl⟩ hk
      try walk_at "z"
      simp only [Int.zero_add]
      rw [x_tup (tab_at hi)]
      try walk_at "z"
      rw [ha.ix (tab_at hi)]
      try walk_at "z"
      exact hk _ _ _ Fg.refl ⟨_, _, rfl, rfl⟩
  · exact h.elim

end Zd

set_option Elab.async false
set_option linter.all false
set_option maxRecDepth 100000
set_option maxHeartbeats 8000000
namespace Zd
open PySem
open L2 (V HO Hp)
local macro_rules | `(tactic| walk_at "z") => `(tactic| simp only [↓s_nil, ↓s_seq, ↓s_pass, ↓s_brk, ↓s_cont, ↓s_expr, ↓s_ret, ↓s_retn, ↓s_ifs, ↓s_asg, ↓s_par, ↓s_aug, ↓s_fors, ↓s_raise, ↓s_try, ↓p_get0, ↓p_getS, ↓e_var, ↓e_int, ↓e_bl, ↓e_non, ↓e_str, ↓e_gl, ↓e_ty, ↓e_bin, ↓e_un, ↓e_cmp, ↓e_chn, ↓e_vand, ↓e_vor, ↓e_vnot, ↓e_ife, ↓e_tup, ↓e_lst, ↓e_ix, ↓e_sl, ↓e_call, ↓e_callK, ↓e_blt, ↓e_mth, w_own0, w_own, w_nil, w_cons, ↓e_lc, ↓e_lc2, ↓e_dc, ↓e_dget, ↓e_dnew, ↓e_mnd, ↓e_dget1, ↓e_lvals, ↓e_fmt, ↓e_js, ↓e_op1, ↓e_op2, ↓i_it1, ↓i_it2, ↓i_it3, ↓s_augx, ↓j_nil, ↓j_cons, ↓fmt_str, ↓fmt_int, ↓strO_str, ↓i_enum, ↓i_zip, ↓enum_t, ↓zip_tt, ↓a_nil, ↓a_cons, ↓o_none, ↓o_some, ↓o_int, ↓t_tt, ↓t_tv, ↓t_cmp, ↓t_chn, ↓t_and, ↓t_or, ↓t_not, ↓ta_one, ↓ta_cons, ↓to_one, ↓to_cons, ↓va_one, ↓va_cons, ↓vo_one, ↓vo_cons, ↓i_seq, ↓i_rng1, ↓i_rng2, ↓rng1_int, ↓rng2_int, ↓seq_tupE, ↓seq_strE, ↓g_nm, ↓g_tup, ↓g_ix, ↓gs_nil, ↓gs_cons, ↓tru_bl, ↓tru_non, ↓tru_int, ↓tru_tup, ↓isBl_bl, ↓b_add, ↓b_adds, ↓b_addt, ↓b_sub, ↓b_mul, ↓b_div, ↓b_mod, ↓b_pow, ↓b_shl, ↓b_shr, ↓b_and, ↓b_or, ↓b_xor, ↓u_neg, ↓u_inv, ↓c_eq, ↓c_eqs, ↓c_eqb, ↓c_ne, ↓c_nes, ↓c_neb, ↓c_lt, ↓c_le, ↓c_gt, ↓c_ge, ↓au_add, ↓au_sub, ↓f_lent, ↓f_lens, ↓f_abs, ↓f_int, ↓f_intb, ↓f_max, ↓f_min, ↓f_tupt, ↓f_listt, ↓f_isi_ii, ↓f_isi_ib, ↓f_isi_it, ↓f_isi_is, ↓f_isi_il, ↓f_isi_tt, ↓f_isi_ti, ↓f_isi_tb, ↓f_isi_ts, ↓f_isi_tl, ↓f_isi_bb, ↓f_isi_bi, ↓f_isi_ss, ↓f_isi_st, ↓f_isi_si, ↓f_isi_sb, ↓f_str, ↓x_tup0, ↓x_tup1, ↓x_tup2, ↓m_bits, ↓m_bits2, decide_eq_true_eq, Bool.true_and, Bool.and_true, Bool.not_true, Bool.not_false, Bool.false_eq_true, if_true, if_false, ite_true, ite_false, true_and, and_true, List.set_cons_zero, List.set_cons_succ, List.length_cons, List.length_nil, decide_true, decide_false, Bool.not_eq_true', decide_eq_false_iff_not, not_true_eq_false, not_false_eq_true, eq_self, reduceIte])
local macro_rules | `(tactic| walk_at "zh") => `(tactic| simp only [↓s_nil, ↓s_seq, ↓s_pass, ↓s_brk, ↓s_cont, ↓s_expr, ↓s_ret, ↓s_retn, ↓s_ifs, ↓s_asg, ↓s_par, ↓s_aug, ↓s_fors, ↓s_raise, ↓s_try, ↓p_get0, ↓p_getS, ↓e_var, ↓e_int, ↓e_bl, ↓e_non, ↓e_str, ↓e_gl, ↓e_ty, ↓e_bin, ↓e_un, ↓e_cmp, ↓e_chn, ↓e_vand, ↓e_vor, ↓e_vnot, ↓e_ife, ↓e_tup, ↓e_lst, ↓e_ix, ↓e_sl, ↓e_call, ↓e_callK, ↓e_blt, ↓e_mth, w_own0, w_own, w_nil, w_cons, ↓e_lc, ↓e_lc2, ↓e_dc, ↓e_dget, ↓e_dnew, ↓e_mnd, ↓e_dget1, ↓e_lvals, ↓e_fmt, ↓e_js, ↓e_op1, ↓e_op2, ↓i_it1, ↓i_it2, ↓i_it3, ↓s_augx, ↓j_nil, ↓j_cons, ↓fmt_str, ↓fmt_int, ↓strO_str, ↓i_enum, ↓i_zip, ↓enum_t, ↓zip_tt, ↓a_nil, ↓a_cons, ↓o_none, ↓o_some, ↓o_int, ↓t_tt, ↓t_tv, ↓t_cmp, ↓t_chn, ↓t_and, ↓t_or, ↓t_not, ↓ta_one, ↓ta_cons, ↓to_one, ↓to_cons, ↓va_one, ↓va_cons, ↓vo_one, ↓vo_cons, ↓i_seq, ↓i_rng1, ↓i_rng2, ↓rng1_int, ↓rng2_int, ↓seq_tupE, ↓seq_strE, ↓g_nm, ↓g_tup, ↓g_ix, ↓gs_nil, ↓gs_cons, ↓tru_bl, ↓tru_non, ↓tru_int, ↓tru_tup, ↓isBl_bl, ↓b_add, ↓b_adds, ↓b_addt, ↓b_sub, ↓b_mul, ↓b_div, ↓b_mod, ↓b_pow, ↓b_shl, ↓b_shr, ↓b_and, ↓b_or, ↓b_xor, ↓u_neg, ↓u_inv, ↓c_eq, ↓c_eqs, ↓c_eqb, ↓c_ne, ↓c_nes, ↓c_neb, ↓c_lt, ↓c_le, ↓c_gt, ↓c_ge, ↓au_add, ↓au_sub, ↓f_lent, ↓f_lens, ↓f_abs, ↓f_int, ↓f_intb, ↓f_max, ↓f_min, ↓f_tupt, ↓f_listt, ↓f_isi_ii, ↓f_isi_ib, ↓f_isi_it, ↓f_isi_is, ↓f_isi_il, ↓f_isi_tt, ↓f_isi_ti, ↓f_isi_tb, ↓f_isi_ts, ↓f_isi_tl, ↓f_isi_bb, ↓f_isi_bi, ↓f_isi_ss, ↓f_isi_st, ↓f_isi_si, ↓f_isi_sb, ↓f_str, ↓x_tup0, ↓x_tup1, ↓x_tup2, ↓m_bits, ↓m_bits2, decide_eq_true_eq, Bool.true_and, Bool.and_true, Bool.not_true, Bool.not_false, Bool.false_eq_true, if_true, if_false, ite_true, ite_false, true_and, and_true, List.set_cons_zero, List.set_cons_succ, List.length_cons, List.length_nil, decide_true, decide_false, Bool.not_eq_true', decide_eq_false_iff_not, not_true_eq_false, not_false_eq_true, eq_self, reduceIte, *])
/-! Y 11: orders of boxes and lots moved by them (plain); sorted pairs. -/
structure Bij (n : Nat) (s t : Nat → Nat) : Prop where
  s1 : ∀ i, i < n → s i < n ∧ t (s i) = i
  t1 : ∀ i, i < n → t i < n ∧ s (t i) = i
theorem Bij.symm {n : Nat} {s t : Nat → Nat} (h : Bij n s t) : Bij n t s := ⟨h.t1, h.s1⟩
def mv (n : Nat) (s : Nat → Nat) (l : Nat) : Nat := ((List.range n).filter l.testBit).foldl (fun a i => a ||| 2 ^ s i) 0
theorem bit_fold (s : Nat → Nat) (j : Nat) : ∀ (is : List Nat) (a : Nat), (is.foldl (fun a i => a ||| 2 ^ s i) a).testBit j = true ↔ a.testBit j = true ∨ ∃ i ∈ is, s i = j
  | [], a => by simp
  | i :: is, a => by
    rw [List.foldl_cons, bit_fold s j is, Nat.testBit_or, Bool.or_eq_true, Nat.testBit_two_pow]
    constructor
    · rintro ((h | h) | ⟨k, hk, e⟩)
      · exact .inl h
      · exact .inr ⟨i, List.mem_cons_self, by simpa using h⟩
      · exact .inr ⟨k, List.mem_cons_of_mem _ hk, e⟩
    · rintro (h | ⟨k, hk, e⟩)
      · exact .inl (.inl h)
      · rcases List.mem_cons.mp hk with h | h
        · subst h; exact .inl (.inr (by simpa using e))
        · exact .inr ⟨k, h, e⟩
theorem mv_bit {n : Nat} {s : Nat → Nat} {l j : Nat} : (mv n s l).testBit j = true ↔ ∃ i, i < n ∧ l.testBit i = true ∧ s i = j := by
  unfold mv
  rw [bit_fold]
  constructor
  · rintro (h | ⟨i, hi, e⟩)
    · simp at h
    · obtain ⟨h1, h2⟩ := List.mem_filter.mp hi
      exact ⟨i, List.mem_range.mp h1, h2, e⟩
  · rintro ⟨i, h1, h2, e⟩
    exact .inr ⟨i, List.mem_filter.mpr ⟨List.mem_range.mpr h1, h2⟩, e⟩
theorem mv_lt {n : Nat} {s : Nat → Nat} {l : Nat} (h : ∀ i, i < n → s i < n) : mv n s l < 2 ^ n := lt_of_bits fun j hj => by
  cases e : (mv n s l).testBit j with
  | false => rfl
  | true =>
    obtain ⟨i, h1, _, h3⟩ := mv_bit.mp e
    have := h i h1
    omega
theorem mv_back {n : Nat} {s t : Nat → Nat} {l : Nat} (b : Bij n s t) (hl : l < 2 ^ n) : mv n t (mv n s l) = l := by
  apply Nat.eq_of_testBit_eq
  intro j
  have : (mv n t (mv n s l)).testBit j = true ↔ l.testBit j = true := by
    rw [mv_bit]
    constructor
    · rintro ⟨i, h1, h2, h3⟩
      obtain ⟨k, k1, k2, k3⟩ := mv_bit.mp h2
      subst k3
      rw [(b.s1 k k1).2] at h3
      subst h3
      exact k2
    · intro h
      have hj : j < n := by
        rcases Nat.lt_or_ge j n with h1 | h1
        · exact h1
        · rw [bits_of_lt hl h1] at h; cases h
      exact ⟨s j, (b.s1 j hj).1, mv_bit.mpr ⟨j, hj, h, rfl⟩, (b.s1 j hj).2⟩
  cases e1 : l.testBit j <;> cases e2 : (mv n t (mv n s l)).testBit j <;> simp_all
theorem filt_top {l : Nat} : ∀ (k n : Nat), (∀ s, n ≤ s → l.testBit s = false) → (List.range (n + k)).filter l.testBit = (List.range n).filter l.testBit
  | 0, n, _ => rfl
  | k + 1, n, h => by
    rw [← Nat.add_assoc, List.range_succ, List.filter_append, filt_top k n h]
    simp [h (n + k) (by omega)]
theorem filt_eq {l a b : Nat} (h : ∀ s, a ≤ s → l.testBit s = false) (h' : ∀ s, b ≤ s → l.testBit s = false) : (List.range a).filter l.testBit = (List.range b).filter l.testBit := by
  rcases Nat.le_total a b with c | c
  · obtain ⟨k, rfl⟩ := Nat.exists_eq_add_of_le c
    exact (filt_top k a h).symm
  · obtain ⟨k, rfl⟩ := Nat.exists_eq_add_of_le c
    exact filt_top k b h'
theorem bits_top {l s : Nat} (h : Builtin.Int.intBits (l : Int) ≤ s) : l.testBit s = false := by
  have h1 : (l : Int).natAbs < 2 ^ s := intBits_le_iff.mp h
  exact Nat.testBit_lt_two_pow h1
/-! any table -/
def tabP (n : Nat) (F : Nat → PV) : List PV := (List.range n).map F
theorem tabP_len {n : Nat} {F : Nat → PV} : (tabP n F).length = n := by unfold tabP; simp
theorem tabP_congr {n : Nat} {F G : Nat → PV} (h : ∀ l, l < n → F l = G l) : tabP n F = tabP n G := List.map_congr_left fun l hl => h l (List.mem_range.mp hl)
theorem tabP_set {n : Nat} {F : Nat → PV} {l : Nat} {x : PV} : (tabP n F).set l x = tabP n fun k => if k = l then x else F k := by
  unfold tabP
  apply List.ext_getElem?
  intro i
  rw [List.getElem?_set, List.getElem?_map, List.getElem?_map]
  by_cases hi : i < n
  · simp [hi]
    by_cases e : l = i
    · subst e; simp [hi]
    · simp [e, Ne.symm e]
  · simp [hi]
    intro e
    omega
theorem tabP_at {n : Nat} {F : Nat → PV} {l : Nat} (h : l < n) : L2.atI (tabP n F) (l : Int) = some (F l) := atI_ok (by omega) (by unfold tabP; simp [h])
theorem tab_tabP {n : Nat} {f : Nat → Int} : tab n f = tabP n fun l => .int (f l) := rfl
theorem put_step {n : Nat} {s t : Nat → Nat} {F G : Nat → PV} {i : Nat} (hi : i < n) (hs : ∀ i, i < n → t (s i) = i) (ht : ∀ k, k < n → s (t k) = k) :
    tabP n (fun k => if k = s i then F i else if t k < i then F (t k) else G k) = tabP n fun k => if t k < i + 1 then F (t k) else G k := tabP_congr fun k hk => by
  by_cases e : k = s i
  · subst e
    rw [if_pos rfl, if_pos (by rw [hs i hi]; omega), hs i hi]
  · rw [if_neg e]
    have : t k ≠ i := fun z => e (by rw [← z, ht k hk])
    by_cases c : t k < i
    · rw [if_pos c, if_pos (by omega)]
    · rw [if_neg c, if_neg (by omega)]
theorem put_all {n : Nat} {t : Nat → Nat} {F G : Nat → PV} (ht : ∀ k, k < n → t k < n) : tabP n (fun k => if t k < n then F (t k) else G k) = tabP n fun k => F (t k) := tabP_congr fun k hk => by rw [if_pos (ht k hk)]
theorem put_none {n : Nat} {t : Nat → Nat} {F G : Nat → PV} : tabP n (fun k => if t k < 0 then F (t k) else G k) = tabP n G := tabP_congr fun k _ => by rw [if_neg (Nat.not_lt_zero _)]
theorem enum_tabP {n : Nat} {F : Nat → PV} : enumL 0 (tabP n F) = (List.range n).map fun l : Nat => PV.tup [.int l, F l] := by
  have h := enumL_map F (List.range n) 0
  show enumL 0 ((List.range n).map F) = _
  rw [h]
  apply List.ext_getElem?
  intro i
  rw [List.getElem?_map, List.getElem?_map, List.getElem?_zipIdx]
  by_cases hi : i < n
  · simp [hi]
  · simp [hi]
theorem range_mid {pre post : List Nat} {x n : Nat} (e : pre ++ x :: post = List.range n) : x = pre.length ∧ x < n := by
  have h1 := congrArg (fun l => l[pre.length]?) e
  simp at h1
  have hl := congrArg List.length e
  simp at hl
  have : pre.length < n := by omega
  rw [List.getElem?_range this] at h1
  cases h1
  exact ⟨rfl, this⟩
/-! sorted pairs -/
def lexB (p q : Int × Int) : Bool := decide (p.1 < q.1) || (decide (p.1 = q.1) && decide (p.2 ≤ q.2))
theorem lexB_iff {p q : Int × Int} : lexB p q = true ↔ lexLe p q := by unfold lexB lexLe; simp
def srtP (ps : List (Int × Int)) : List (Int × Int) := ps.mergeSort lexB
theorem srtP_perm (ps : List (Int × Int)) : (srtP ps).Perm ps := List.mergeSort_perm _ _
theorem srtP_pair (ps : List (Int × Int)) : (srtP ps).Pairwise lexLe := by
  have := List.pairwise_mergeSort (le := lexB) (fun a b c h h' => by
    rw [lexB_iff] at *
    unfold lexLe at *
    omega) (fun a b => by
    rw [Bool.or_eq_true, lexB_iff, lexB_iff]
    unfold lexLe
    omega) ps
  exact this.imp fun h => lexB_iff.mp h
theorem srtP_eq {ps qs : List (Int × Int)} (h : qs.Perm ps) (s : qs.Pairwise lexLe) : qs = srtP ps := by
  refine List.Perm.eq_of_pairwise (le := lexLe) (fun a b _ _ h1 h2 => ?_) s (srtP_pair ps) (h.trans (srtP_perm ps).symm)
  unfold lexLe at h1 h2
  exact Prod.ext (by omega) (by omega)
theorem m_popAt {M : Mp} {p : Addr} {xs : List PV} {k : Nat} {y : PV} {Q : ZQ} (h : M p = some (.lst xs)) (hk : xs[k]? = some y) (hl : k < 2 ^ 60) : mthP .popAt (.ref p) [.int k] M Q = Q y (mu M p (.lst (xs.eraseIdx k))) := by
  show (match M p with | some (.lst ys) => _ | _ => False) = _
  rw [h]
  show ((-(2 ^ 63) ≤ (k : Int) ∧ (k : Int) < 2 ^ 63) ∧ match L2.ixN xs.length (k : Int) with | some k => _ | none => False) = _
  have hkl := (List.getElem?_eq_some_iff.mp hk).1
  have e9 : L2.ixN xs.length (k : Int) = some k := by
    unfold L2.ixN
    rw [if_pos (by omega), if_pos (by omega)]
    simp
  rw [e9]
  show (_ ∧ match xs[k]? with | some y => _ | none => False) = _
  rw [hk]
  apply propext
  constructor
  · exact fun h => h.2
  · exact fun h => ⟨⟨by omega, by omega⟩, h⟩
theorem pick_perm {α : Type} {l : List α} {i : Nat} {x : α} (h : l[i]? = some x) : (x :: l.eraseIdx i).Perm l := by
  obtain ⟨hi, e⟩ := List.getElem?_eq_some_iff.mp h
  rw [List.eraseIdx_eq_take_drop_succ]
  have : l = l.take i ++ x :: l.drop (i + 1) := by
    rw [← e]
    simp
  conv => rhs; rw [this]
  exact List.perm_middle.symm
theorem m_index {M : Mp} {p : Addr} {n : Nat} {s t : Nat → Nat} {b : Nat} {Q : ZQ} (h : lget M p = some (tab n fun i => (s i : Nat))) (bj : Bij n s t) (hb : b < n) (hq : Q (.int (t b : Nat)) M) : mthP .index (.ref p) [.int b] M Q := by
  show (match lget M p with | some ys => _ | none => False)
  rw [h]
  have hf : (tab n fun i => ((s i : Nat) : Int)).all flatP = true := List.all_eq_true.mpr fun x hx => by
    obtain ⟨i, _, rfl⟩ := List.mem_map.mp hx
    rfl
  refine ⟨⟨rfl, hf⟩, ?_⟩
  have e : (tab n fun i => ((s i : Nat) : Int)).findIdx? (eqF · (.int b)) = some (t b) := by
    rw [List.findIdx?_eq_some_iff_getElem]
    refine ⟨by rw [tab_len]; exact (bj.t1 b hb).1, ?_, fun j hj => ?_⟩
    · unfold tab
      rw [List.getElem_map, List.getElem_range]
      show (((s (t b) : Nat) : Int) == (b : Int)) = true
      rw [(bj.t1 b hb).2]
      simp
    · unfold tab
      rw [List.getElem_map, List.getElem_range]
      show ¬ (((s j : Nat) : Int) == (b : Int)) = true
      intro z
      have z : s j = b := Int.natCast_inj.mp (by simpa using z)
      have hjn : j < n := Nat.lt_trans hj (bj.t1 b hb).1
      have := (bj.s1 j hjn).2
      rw [z] at this
      omega
  rw [e]
  exact hq

end Zd

set_option Elab.async false
set_option linter.all false
set_option maxRecDepth 100000
set_option maxHeartbeats 8000000
namespace Zd
open PySem
open L2 (V HO Hp)
local macro_rules | `(tactic| walk_at "z") => `(tactic| simp only [↓s_nil, ↓s_seq, ↓s_pass, ↓s_brk, ↓s_cont, ↓s_expr, ↓s_ret, ↓s_retn, ↓s_ifs, ↓s_asg, ↓s_par, ↓s_aug, ↓s_fors, ↓s_raise, ↓s_try, ↓p_get0, ↓p_getS, ↓e_var, ↓e_int, ↓e_bl, ↓e_non, ↓e_str, ↓e_gl, ↓e_ty, ↓e_bin, ↓e_un, ↓e_cmp, ↓e_chn, ↓e_vand, ↓e_vor, ↓e_vnot, ↓e_ife, ↓e_tup, ↓e_lst, ↓e_ix, ↓e_sl, ↓e_call, ↓e_callK, ↓e_blt, ↓e_mth, w_own0, w_own, w_nil, w_cons, ↓e_lc, ↓e_lc2, ↓e_dc, ↓e_dget, ↓e_dnew, ↓e_mnd, ↓e_dget1, ↓e_lvals, ↓e_fmt, ↓e_js, ↓e_op1, ↓e_op2, ↓i_it1, ↓i_it2, ↓i_it3, ↓s_augx, ↓j_nil, ↓j_cons, ↓fmt_str, ↓fmt_int, ↓strO_str, ↓i_enum, ↓i_zip, ↓enum_t, ↓zip_tt, ↓a_nil, ↓a_cons, ↓o_none, ↓o_some, ↓o_int, ↓t_tt, ↓t_tv, ↓t_cmp, ↓t_chn, ↓t_and, ↓t_or, ↓t_not, ↓ta_one, ↓ta_cons, ↓to_one, ↓to_cons, ↓va_one, ↓va_cons, ↓vo_one, ↓vo_cons, ↓i_seq, ↓i_rng1, ↓i_rng2, ↓rng1_int, ↓rng2_int, ↓seq_tupE, ↓seq_strE, ↓g_nm, ↓g_tup, ↓g_ix, ↓gs_nil, ↓gs_cons, ↓tru_bl, ↓tru_non, ↓tru_int, ↓tru_tup, ↓isBl_bl, ↓b_add, ↓b_adds, ↓b_addt, ↓b_sub, ↓b_mul, ↓b_div, ↓b_mod, ↓b_pow, ↓b_shl, ↓b_shr, ↓b_and, ↓b_or, ↓b_xor, ↓u_neg, ↓u_inv, ↓c_eq, ↓c_eqs, ↓c_eqb, ↓c_ne, ↓c_nes, ↓c_neb, ↓c_lt, ↓c_le, ↓c_gt, ↓c_ge, ↓au_add, ↓au_sub, ↓f_lent, ↓f_lens, ↓f_abs, ↓f_int, ↓f_intb, ↓f_max, ↓f_min, ↓f_tupt, ↓f_listt, ↓f_isi_ii, ↓f_isi_ib, ↓f_isi_it, ↓f_isi_is, ↓f_isi_il, ↓f_isi_tt, ↓f_isi_ti, ↓f_isi_tb, ↓f_isi_ts, ↓f_isi_tl, ↓f_isi_bb, ↓f_isi_bi, ↓f_isi_ss, ↓f_isi_st, ↓f_isi_si, ↓f_isi_sb, ↓f_str, ↓x_tup0, ↓x_tup1, ↓x_tup2, ↓m_bits, ↓m_bits2, decide_eq_true_eq, Bool.true_and, Bool.and_true, Bool.not_true, Bool.not_false, Bool.false_eq_true, if_true, if_false, ite_true, ite_false, true_and, and_true, List.set_cons_zero, List.set_cons_succ, List.length_cons, List.length_nil, decide_true, decide_false, Bool.not_eq_true', decide_eq_false_iff_not, not_true_eq_false, not_false_eq_true, eq_self, reduceIte])
local macro_rules | `(tactic| walk_at "zh") => `(tactic| simp only [↓s_nil, ↓s_seq, ↓s_pass, ↓s_brk, ↓s_cont, ↓s_expr, ↓s_ret, ↓s_retn, ↓s_ifs, ↓s_asg, ↓s_par, ↓s_aug, ↓s_fors, ↓s_raise, ↓s_try, ↓p_get0, ↓p_getS, ↓e_var, ↓e_int, ↓e_bl, ↓e_non, ↓e_str, ↓e_gl, ↓e_ty, ↓e_bin, ↓e_un, ↓e_cmp, ↓e_chn, ↓e_vand, ↓e_vor, ↓e_vnot, ↓e_ife, ↓e_tup, ↓e_lst, ↓e_ix, ↓e_sl, ↓e_call, ↓e_callK, ↓e_blt, ↓e_mth, w_own0, w_own, w_nil, w_cons, ↓e_lc, ↓e_lc2, ↓e_dc, ↓e_dget, ↓e_dnew, ↓e_mnd, ↓e_dget1, ↓e_lvals, ↓e_fmt, ↓e_js, ↓e_op1, ↓e_op2, ↓i_it1, ↓i_it2, ↓i_it3, ↓s_augx, ↓j_nil, ↓j_cons, ↓fmt_str, ↓fmt_int, ↓strO_str, ↓i_enum, ↓i_zip, ↓enum_t, ↓zip_tt, ↓a_nil, ↓a_cons, ↓o_none, ↓o_some, ↓o_int, ↓t_tt, ↓t_tv, ↓t_cmp, ↓t_chn, ↓t_and, ↓t_or, ↓t_not, ↓ta_one, ↓ta_cons, ↓to_one, ↓to_cons, ↓va_one, ↓va_cons, ↓vo_one, ↓vo_cons, ↓i_seq, ↓i_rng1, ↓i_rng2, ↓rng1_int, ↓rng2_int, ↓seq_tupE, ↓seq_strE, ↓g_nm, ↓g_tup, ↓g_ix, ↓gs_nil, ↓gs_cons, ↓tru_bl, ↓tru_non, ↓tru_int, ↓tru_tup, ↓isBl_bl, ↓b_add, ↓b_adds, ↓b_addt, ↓b_sub, ↓b_mul, ↓b_div, ↓b_mod, ↓b_pow, ↓b_shl, ↓b_shr, ↓b_and, ↓b_or, ↓b_xor, ↓u_neg, ↓u_inv, ↓c_eq, ↓c_eqs, ↓c_eqb, ↓c_ne, ↓c_nes, ↓c_neb, ↓c_lt, ↓c_le, ↓c_gt, ↓c_ge, ↓au_add, ↓au_sub, ↓f_lent, ↓f_lens, ↓f_abs, ↓f_int, ↓f_intb, ↓f_max, ↓f_min, ↓f_tupt, ↓f_listt, ↓f_isi_ii, ↓f_isi_ib, ↓f_isi_it, ↓f_isi_is, ↓f_isi_il, ↓f_isi_tt, ↓f_isi_ti, ↓f_isi_tb, ↓f_isi_ts, ↓f_isi_tl, ↓f_isi_bb, ↓f_isi_bi, ↓f_isi_ss, ↓f_isi_st, ↓f_isi_si, ↓f_isi_sb, ↓f_str, ↓x_tup0, ↓x_tup1, ↓x_tup2, ↓m_bits, ↓m_bits2, decide_eq_true_eq, Bool.true_and, Bool.and_true, Bool.not_true, Bool.not_false, Bool.false_eq_true, if_true, if_false, ite_true, ite_false, true_and, and_true, List.set_cons_zero, List.set_cons_succ, List.length_cons, List.length_nil, decide_true, decide_false, Bool.not_eq_true', decide_eq_false_iff_not, not_true_eq_false, not_false_eq_true, eq_self, reduceIte, *])
/-! Y 12: the pool of k19 to k23, k46, k47. -/
/-- two lists: the great numbers, and [that list, mixed] -/
def poolF2 (p g : Addr) : Hp → Prop := fun H => ∃ (ns : List Int) (m : Int × Int), H p = some (.lst [.ref g, .int m.1, .int m.2]) ∧ H g = some (.lst (ns.map V.int)) ∧ p ≠ g
abbrev poolO2 (p g : Addr) : MO := .abs (poolF2 p g) [p, g]
def Pool2 (M : Mp) (p : Addr) : Prop := ∃ g, M p = some (poolO2 p g)
theorem Pool2.fg {M M' : Mp} {p : Addr} (h : Pool2 M p) (f : Fg M M') : Pool2 M' p := by
  obtain ⟨g, h⟩ := h
  exact ⟨g, f.1 _ _ h⟩
theorem Pool2.mu {M : Mp} {p q : Addr} {o : MO} (h : Pool2 M p) (hq : M q = none) : Pool2 (Zd.mu M q o) p := by
  obtain ⟨g, h⟩ := h
  exact ⟨g, by rw [mu_ne (ne_new hq h)]; exact h⟩
abbrev openM2 (M : Mp) (p g : Addr) (ns : List Int) (m : Int × Int) : Mp := Zd.mu (Zd.mu M g (.lst (ns.map PV.int))) p (.lst [.ref g, .int m.1, .int m.2])
section
variable {K : PySem.W.Frag} {P H : Hp} {M : Mp} {p g : Addr}
theorem pool_mok2 (h : poolF2 p g H) : MOk K H p (poolO2 p g) := by
  refine ⟨h, List.mem_cons_self, ?_, fun H1 H2 _ e ⟨ns, m, h1, h2, h3⟩ => ⟨ns, m, by rw [e p List.mem_cons_self]; exact h1, by rw [e g (List.mem_cons_of_mem _ List.mem_cons_self)]; exact h2, h3⟩⟩
  obtain ⟨ns, m, h1, _⟩ := h
  rw [h1]; exact fun z => nomatch z
theorem open_at2 {ns : List Int} {m : Int × Int} (hne : p ≠ g) (s : SRm K P H (openM2 M p g ns m)) : poolF2 p g H := by
  unfold openM2 at s
  obtain ⟨vs, h1, h2⟩ := s.ok p _ mu_same
  obtain ⟨us, h3, h4⟩ := s.ok g (.lst (ns.map PV.int)) (by rw [mu_ne (Ne.symm hne), mu_same])
  have e4 := Rs.toInt h4
  subst e4
  obtain ⟨v1, w1, rfl, r1, h2⟩ := h2
  obtain ⟨v2, w2, rfl, r2, h2⟩ := h2
  obtain ⟨v3, w3, rfl, r3, h2⟩ := h2
  have e : w3 = [] := h2
  subst e
  obtain rfl := R.of_ref r1
  obtain rfl := R.of_int r2
  obtain rfl := R.of_int r3
  exact ⟨ns, m, h1, h3, hne⟩
theorem pool_open2 (s : SRm K P H M) (hM : M p = some (poolO2 p g)) : ∃ ns m, p ≠ g ∧ M g = some (.hid p) ∧ SRm K P H (openM2 M p g ns m) := by
  obtain ⟨⟨ns, m, h1, h2, h3⟩, _⟩ := s.ok p _ hM
  have hg : M g = some (.hid p) := (s.own p _ _ hM g (List.mem_cons_of_mem _ List.mem_cons_self)).resolve_left (Ne.symm h3)
  refine ⟨ns, m, h3, hg, ?_⟩
  unfold openM2
  refine ⟨fun a o e => ?_, fun a φ F e b hb => ?_, fun a o e => ?_⟩
  · by_cases ha : a = p
    · subst ha; rw [mu_same] at e; cases e
      exact ⟨_, h1, Rs.cons rfl (Rs.cons rfl (Rs.one rfl))⟩
    · rw [mu_ne ha] at e
      by_cases hag : a = g
      · subst hag; rw [mu_same] at e; cases e
        exact ⟨_, h2, Rs.int ns⟩
      · rw [mu_ne hag] at e; exact s.ok a o e
  · by_cases ha : a = p
    · subst ha; rw [mu_same] at e; cases e
    · rw [mu_ne ha] at e
      by_cases hag : a = g
      · subst hag; rw [mu_same] at e; cases e
      · rw [mu_ne hag] at e
        rcases s.own a φ F e b hb with z | z
        · exact .inl z
        · refine .inr ?_
          have b1 : b ≠ p := fun y => by subst y; rw [hM] at z; cases z
          have b2 : b ≠ g := fun y => by subst y; rw [hg] at z; cases z; exact ha rfl
          rw [mu_ne b1, mu_ne b2]; exact z
  · obtain ⟨a1, a2⟩ := s.pin a o e
    have b1 : a ≠ p := fun y => by subst y; rw [hM] at a2; cases a2
    have b2 : a ≠ g := fun y => by subst y; rw [hg] at a2; cases a2
    exact ⟨a1, by rw [mu_ne b1, mu_ne b2]; exact a2⟩
theorem pool_close2 {ns : List Int} {m : Int × Int} (hM : M p = some (poolO2 p g)) (hg : M g = some (.hid p)) (hne : p ≠ g) (own : ∀ a φ F, M a = some (.abs φ F) → ∀ b ∈ F, b = a ∨ M b = some (.hid a)) : Sg M (openM2 M p g ns m) := fun K P H s => by
  have hp := open_at2 hne s
  unfold openM2 at s
  refine ⟨fun a o e => ?_, own, fun a o e => ?_⟩
  · by_cases ha : a = p
    · subst ha; rw [hM] at e; cases e
      exact pool_mok2 hp
    · by_cases hag : a = g
      · subst hag; rw [hg] at e; cases e
        obtain ⟨_, _, _, h2, _⟩ := hp
        show H a ≠ none
        rw [h2]; exact fun z => nomatch z
      · exact s.ok a o (by rw [mu_ne ha, mu_ne hag]; exact e)
  · obtain ⟨a1, a2⟩ := s.pin a o e
    have b1 : a ≠ p := fun y => by subst y; rw [mu_same] at a2; cases a2
    rw [mu_ne b1] at a2
    have b2 : a ≠ g := fun y => by subst y; rw [mu_same] at a2; cases a2
    rw [mu_ne b2] at a2
    exact ⟨a1, a2⟩
theorem pool_make2 {ns : List Int} {m : Int × Int} (hp : M p = none) (hg : M g = none) (hne : p ≠ g) : Sg (mu (mu M g (.hid p)) p (poolO2 p g)) (openM2 M p g ns m) := fun K P H s => by
  have hh := open_at2 hne s
  unfold openM2 at s
  refine ⟨fun a o e => ?_, fun a φ F e b hb => ?_, fun a o e => ?_⟩
  · by_cases ha : a = p
    · subst ha; rw [mu_same] at e; cases e
      exact pool_mok2 hh
    · rw [mu_ne ha] at e
      by_cases hag : a = g
      · subst hag; rw [mu_same] at e; cases e
        obtain ⟨_, _, _, h2, _⟩ := hh
        show H a ≠ none
        rw [h2]; exact fun z => nomatch z
      · rw [mu_ne hag] at e
        exact s.ok a o (by rw [mu_ne ha, mu_ne hag]; exact e)
  · by_cases ha : a = p
    · subst ha; rw [mu_same] at e; cases e
      rcases List.mem_cons.mp hb with z | z
      · exact .inl z
      · have z := List.mem_singleton.mp z
        subst z
        exact .inr (by rw [mu_ne (Ne.symm hne), mu_same])
    · rw [mu_ne ha] at e
      by_cases hag : a = g
      · subst hag; rw [mu_same] at e; cases e
      · rw [mu_ne hag] at e
        rcases s.own a φ F (by rw [mu_ne ha, mu_ne hag]; exact e) b hb with z | z
        · exact .inl z
        · refine .inr ?_
          have b1 : b ≠ p := fun y => by subst y; rw [mu_same] at z; cases z
          rw [mu_ne b1] at z
          have b2 : b ≠ g := fun y => by subst y; rw [mu_same] at z; cases z
          rw [mu_ne b2] at z
          rw [mu_ne b1, mu_ne b2]; exact z
  · obtain ⟨a1, a2⟩ := s.pin a o e
    have b1 : a ≠ p := fun y => by subst y; rw [mu_same] at a2; cases a2
    rw [mu_ne b1] at a2
    have b2 : a ≠ g := fun y => by subst y; rw [mu_same] at a2; cases a2
    rw [mu_ne b2] at a2
    exact ⟨a1, by rw [mu_ne b1, mu_ne b2]; exact a2⟩
end
def sp_law_pool2 : ZSp := fun xs M Q E => match xs with
  | [.fl xs] => (∃ ns : List Int, xs = ns.map PV.int ∧ ns.length ≤ 1000) ∧ ∀ p g, M p = none → M g = none → p ≠ g → Q (.ref p) (mu (mu M g (.hid p)) p (poolO2 p g))
  | _ => False
def sp_law_pick : ZSp := fun xs M Q E => match xs with
  | [.ref p, .int n] => (Pool2 M p ∧ 0 < n ∧ n < 2 ^ 250) ∧ ∀ r : Int, 0 ≤ r → r < n → Q (.int r) M
  | _ => False
def bPool2 (c0 c1 c2 c3 : Int) : ZS :=
  (.seq (.asg (.nm 1) (.int c0)) <|
  (.seq (.fors (.nm 2) (.seq (.var 0))
    (.seq (.asg (.nm 1) (.bin .Mod (.bin .Add (.bin .Add (.bin .Mult (.var 1) (.int c1)) (.blt .int (.cons (.var 2) .nil))) (.int c2)) (.int c3))) <|
    .nil)) <|
  (.seq (.ret (.lst (.cons (.lc [(Str.ofString "cell", 2)] (.nm 2) (.seq (.var 0)) .tt (.blt .abs (.cons (.blt .int (.cons (.var 2) .nil)) .nil))) (.cons (.int 0) (.cons (.var 1) .nil))))) <|
  .nil)))
theorem seq_flE {xs : List PV} {M : Mp} {Q : ZSeq → Mp → Prop} : seqP (.fl xs) M Q = Q ⟨xs, fun _ => True⟩ M := rfl
theorem m_pool2 (c0 c1 c2 c3 : Int) (hc : -(2 ^ 64) < c1 ∧ c1 < 2 ^ 64) (hm : 0 < c3) : Meets 3 1 (wpS (bPool2 c0 c1 c2 c3)) sp_law_pool2 := by
  intro xs M Q E h
  unfold sp_law_pool2 at h
  split at h
  · rename_i xs
    obtain ⟨⟨ns, rfl, hl⟩, hq⟩ := h
    refine ⟨rfl, ?_⟩
    show wpS (bPool2 c0 c1 c2 c3) _ _ [some (.fl (ns.map PV.int)), none, none] M
    unfold bPool2
    try walk_at "z"
    rw [seq_flE]
    refine for_map PV.int ns (fun pre τ M' => ∃ (m : Int) (u : Option PV), τ = [some (.fl (ns.map PV.int)), some (.int m), u] ∧ M' = M) (fun _ _ _ _ _ _ => trivial) ?_ ?_ _ _ ⟨c0, none, rfl, rfl⟩
    · rintro τ M' ⟨m, u, rfl, rfl⟩
      try walk_at "z"
      rw [seq_flE]
      refine lc_map PV.int (fun n => .int (if n < 0 then -n else n)) ns [] trivial (by simp; unfold sizeLine; omega) (fun n hn k hk => ?_) ?_
      · try walk_at "z"
        exact hk _ Fg.refl
      · intro g hg
        rw [List.nil_append]
        try walk_at "z"
        refine ⟨Nat.le_of_ble_eq_true rfl, fun p hp => ?_⟩
        obtain ⟨hpg, hpM⟩ := new_none hp
        refine ⟨_, ?_, hq p g hpM hg hpg⟩
        intro K P H s
        have e : (ns.map fun n : Int => PV.int (if n < 0 then -n else n)) = (ns.map fun n : Int => if n < 0 then -n else n).map PV.int := by simp [Function.comp_def]
        rw [e] at s
        exact pool_make2 (m := (0, m)) hpM hg hpg K P H s
    · rintro pre x post τ M' k e ⟨m, u, rfl, rfl⟩ hk
      try walk_at "z"
      exact ⟨.inl (.inr hc), hm, k_of hk ⟨_, _, rfl, rfl⟩⟩
  · exact h.elim
def bPick (c1 c2 c3 c4 : Int) : ZS :=
  (.seq (.ifs (.and (.cons (.cmp .Eq (.ix (.var 0) (.int 1)) (.int 0)) (.one (.cmp .Gt (.blt .len (.cons (.ix (.var 0) (.int 0)) .nil)) (.int 0)))))
    (.seq (.asg (.ix (.var 0) (.int 1)) (.mth .popAt (.ix (.var 0) (.int 0)) (.cons (.int 0) .nil))) <|
    .nil)
    .nil) <|
  (.seq (.asg (.ix (.var 0) (.int 2)) (.bin .Mod (.bin .Add (.bin .Mult (.blt .int (.cons (.ix (.var 0) (.int 2)) .nil)) (.int c1)) (.int c2)) (.int c3))) <|
  (.seq (.asg (.nm 2) (.bin .Mod (.bin .Add (.blt .int (.cons (.ix (.var 0) (.int 1)) .nil)) (.bin .FloorDiv (.blt .int (.cons (.ix (.var 0) (.int 2)) .nil)) (.int c4))) (.var 1))) <|
  (.seq (.asg (.ix (.var 0) (.int 1)) (.bin .FloorDiv (.ix (.var 0) (.int 1)) (.var 1))) <|
  (.seq (.ret (.var 2)) <|
  .nil)))))
theorem m_pick (c1 c2 c3 c4 : Int) (h1 : -(2 ^ 64) < c1 ∧ c1 < 2 ^ 64) (h2 : 0 < c3) (h3 : 0 < c4 ∧ c4 < 1073741824) : MeetsO 3 2 (wpS (bPick c1 c2 c3 c4)) sp_law_pick := by
  intro xs M Q E h
  unfold sp_law_pick at h
  split at h
  · rename_i p n
    obtain ⟨⟨⟨g, hM⟩, hn, hn2⟩, hq⟩ := h
    refine ⟨rfl, fun K P H s => ?_⟩
    obtain ⟨ns, m, hne, hg, so⟩ := pool_open2 s hM
    refine ⟨_, so, ?_⟩
    have cl : ∀ (ns : List Int) (m : Int × Int) (r : Int), 0 ≤ r → r < n → dropQ Q (.int r) (openM2 M p g ns m) := fun ns m r ha hb => ⟨M, pool_close2 hM hg hne s.own, hq r ha hb⟩
    show wpS (bPick c1 c2 c3 c4) _ _ [some (.ref p), some (.int n), none] (openM2 M p g ns m)
    unfold bPick
    have a0 : ∀ (ns : List Int) (m : Int × Int), openM2 M p g ns m p = some (.lst [.ref g, .int m.1, .int m.2]) := fun ns m => mu_same
    have a1 : ∀ (ns : List Int) (m : Int × Int), openM2 M p g ns m g = some (.lst (ns.map PV.int)) := fun ns m => by unfold openM2; rw [mu_ne (Ne.symm hne), mu_same]
    have a2 : ∀ (ns ns' : List Int) (m : Int × Int), mu (openM2 M p g ns m) g (.lst (ns'.map PV.int)) = openM2 M p g ns' m := fun ns ns' m => by
      unfold openM2
      rw [mu_swap hne, mu_mu]
    have a3 : ∀ (ns : List Int) (m : Int × Int) (x y : Int), mu (openM2 M p g ns m) p (.lst [.ref g, .int x, .int y]) = openM2 M p g ns (x, y) := fun ns m x y => by
      unfold openM2
      rw [mu_mu]
    generalize openM2 M p g = O at a0 a1 a2 a3 cl
    have hdiv : divOk (m.1) n := .inr <| .inl ⟨hn, by
      have hlt : n.natAbs < 2 ^ 250 := by omega
      have := (Nat.log2_lt (by omega)).mpr hlt
      omega⟩
    have rest : ∀ (ns : List Int) (a b : Int), wpS
        (.seq (.asg (.ix (.var 0) (.int 2)) (.bin .Mod (.bin .Add (.bin .Mult (.blt .int (.cons (.ix (.var 0) (.int 2)) .nil)) (.int c1)) (.int c2)) (.int c3))) <|
        (.seq (.asg (.nm 2) (.bin .Mod (.bin .Add (.blt .int (.cons (.ix (.var 0) (.int 1)) .nil)) (.bin .FloorDiv (.blt .int (.cons (.ix (.var 0) (.int 2)) .nil)) (.int c4))) (.var 1))) <|
        (.seq (.asg (.ix (.var 0) (.int 1)) (.bin .FloorDiv (.ix (.var 0) (.int 1)) (.var 1))) <|
        (.seq (.ret (.var 2)) <|
        .nil)))) ⟨dropQ Q, fun _ _ => False, fun _ _ => False, fun _ => E⟩ (fun _ M' => dropQ Q .non M') [some (.ref p), some (.int n), none] (O ns (a, b)) := fun ns a b => by
      try walk_at "z"
      rw [x_ref (lget_of (a0 ns (a, b))) (atI_ok (by decide) rfl)]
      try walk_at "z"
      refine ⟨.inl (.inr h1), h2, ?_⟩
      rw [set_ok (a0 ns (a, b)) (ixN_ok (by decide) (show (2 : Int) < ((3 : Nat) : Int) by decide))]
      generalize (b * c1 + c2) % c3 = b2
      rw [show List.set [PV.ref g, PV.int (a, b).1, PV.int (a, b).2] (2 : Int).toNat (.int b2) = [PV.ref g, PV.int a, PV.int b2] from rfl, a3]
      rw [x_ref (lget_of (a0 ns (a, b2))) (atI_ok (by decide) rfl)]
      try walk_at "z"
      rw [x_ref (lget_of (a0 ns (a, b2))) (atI_ok (by decide) rfl)]
      try walk_at "z"
      refine ⟨.inl h3, hn, ?_⟩
      rw [x_ref (lget_of (a0 ns (a, b2))) (atI_ok (by decide) rfl)]
      try walk_at "z"
      refine ⟨.inr <| .inl ⟨hn, by
        have hlt : n.natAbs < 2 ^ 250 := by omega
        have := (Nat.log2_lt (by omega)).mpr hlt
        omega⟩, ?_⟩
      rw [set_ok (a0 ns (a, b2)) (ixN_ok (by decide) (show (1 : Int) < ((3 : Nat) : Int) by decide))]
      rw [show ∀ z, List.set [PV.ref g, PV.int (a, b2).1, PV.int (a, b2).2] (1 : Int).toNat (.int z) = [PV.ref g, PV.int z, PV.int b2] from fun _ => rfl, a3]
      exact cl _ _ _ (Int.emod_nonneg _ (by omega)) (Int.emod_lt_of_pos _ (by omega))
    obtain ⟨a, b⟩ := m
    refine (fun (H : ∀ NX : Tau → Mp → Prop, (∀ ns a b, NX [some (.ref p), some (.int n), none] (O ns (a, b))) → wpS
      (.ifs (.and (.cons (.cmp .Eq (.ix (.var 0) (.int 1)) (.int 0)) (.one (.cmp .Gt (.blt .len (.cons (.ix (.var 0) (.int 0)) .nil)) (.int 0)))))
        (.seq (.asg (.ix (.var 0) (.int 1)) (.mth .popAt (.ix (.var 0) (.int 0)) (.cons (.int 0) .nil))) <|
        .nil)
        .nil) ⟨dropQ Q, fun _ _ => False, fun _ _ => False, fun _ => E⟩ NX [some (.ref p), some (.int n), none] (O ns (a, b))) => H _ rest) ?_
    intro NX hNX
    try walk_at "z"
    rw [x_ref (lget_of (a0 ns (a, b))) (atI_ok (by decide) rfl)]
    try walk_at "z"
    by_cases ha : a = 0
    · rw [if_pos ha, x_ref (lget_of (a0 ns (a, b))) (atI_ok (by decide) rfl)]
      try walk_at "z"
      rw [f_lenr (lget_of (a1 ns (a, b)))]
      try walk_at "z"
      rw [List.length_map]
      cases ns with
      | nil => rw [if_neg (by simp)]; exact hNX _ _ _
      | cons y r =>
        rw [if_pos (by rw [List.length_cons]; omega)]
        rw [x_ref (lget_of (a0 _ (a, b))) (atI_ok (by decide) rfl)]
        refine ⟨by rw [m_lst (.inr (.inr (.inl rfl))) (lget_of (a1 _ (a, b)))]; trivial, ?_⟩
        show mthP .popAt (.ref g) [.int ((0 : Nat) : Int)] _ _
        rw [m_popAt (a1 _ (a, b)) (y := .int y) rfl (by decide)]
        rw [show (List.map PV.int (y :: r)).eraseIdx 0 = r.map PV.int from rfl, a2]
        try walk_at "z"
        rw [set_ok (a0 r (a, b)) (ixN_ok (by decide) (show (1 : Int) < ((3 : Nat) : Int) by decide))]
        rw [show List.set [PV.ref g, PV.int (a, b).1, PV.int (a, b).2] (1 : Int).toNat (.int y) = [PV.ref g, PV.int y, PV.int b] from rfl, a3]
        exact hNX _ _ _
    · rw [if_neg ha]; exact hNX _ _ _
  · exact h.elim

end Zd

set_option Elab.async false
set_option linter.all false
set_option maxRecDepth 100000
set_option maxHeartbeats 8000000
namespace Zd
open PySem
open L2 (V HO Hp)
local macro_rules | `(tactic| walk_at "z") => `(tactic| simp only [↓s_nil, ↓s_seq, ↓s_pass, ↓s_brk, ↓s_cont, ↓s_expr, ↓s_ret, ↓s_retn, ↓s_ifs, ↓s_asg, ↓s_par, ↓s_aug, ↓s_fors, ↓s_raise, ↓s_try, ↓p_get0, ↓p_getS, ↓e_var, ↓e_int, ↓e_bl, ↓e_non, ↓e_str, ↓e_gl, ↓e_ty, ↓e_bin, ↓e_un, ↓e_cmp, ↓e_chn, ↓e_vand, ↓e_vor, ↓e_vnot, ↓e_ife, ↓e_tup, ↓e_lst, ↓e_ix, ↓e_sl, ↓e_call, ↓e_callK, ↓e_blt, ↓e_mth, w_own0, w_own, w_nil, w_cons, ↓e_lc, ↓e_lc2, ↓e_dc, ↓e_dget, ↓e_dnew, ↓e_mnd, ↓e_dget1, ↓e_lvals, ↓e_fmt, ↓e_js, ↓e_op1, ↓e_op2, ↓i_it1, ↓i_it2, ↓i_it3, ↓s_augx, ↓j_nil, ↓j_cons, ↓fmt_str, ↓fmt_int, ↓strO_str, ↓i_enum, ↓i_zip, ↓enum_t, ↓zip_tt, ↓a_nil, ↓a_cons, ↓o_none, ↓o_some, ↓o_int, ↓t_tt, ↓t_tv, ↓t_cmp, ↓t_chn, ↓t_and, ↓t_or, ↓t_not, ↓ta_one, ↓ta_cons, ↓to_one, ↓to_cons, ↓va_one, ↓va_cons, ↓vo_one, ↓vo_cons, ↓i_seq, ↓i_rng1, ↓i_rng2, ↓rng1_int, ↓rng2_int, ↓seq_tupE, ↓seq_strE, ↓g_nm, ↓g_tup, ↓g_ix, ↓gs_nil, ↓gs_cons, ↓tru_bl, ↓tru_non, ↓tru_int, ↓tru_tup, ↓isBl_bl, ↓b_add, ↓b_adds, ↓b_addt, ↓b_sub, ↓b_mul, ↓b_div, ↓b_mod, ↓b_pow, ↓b_shl, ↓b_shr, ↓b_and, ↓b_or, ↓b_xor, ↓u_neg, ↓u_inv, ↓c_eq, ↓c_eqs, ↓c_eqb, ↓c_ne, ↓c_nes, ↓c_neb, ↓c_lt, ↓c_le, ↓c_gt, ↓c_ge, ↓au_add, ↓au_sub, ↓f_lent, ↓f_lens, ↓f_abs, ↓f_int, ↓f_intb, ↓f_max, ↓f_min, ↓f_tupt, ↓f_listt, ↓f_isi_ii, ↓f_isi_ib, ↓f_isi_it, ↓f_isi_is, ↓f_isi_il, ↓f_isi_tt, ↓f_isi_ti, ↓f_isi_tb, ↓f_isi_ts, ↓f_isi_tl, ↓f_isi_bb, ↓f_isi_bi, ↓f_isi_ss, ↓f_isi_st, ↓f_isi_si, ↓f_isi_sb, ↓f_str, ↓x_tup0, ↓x_tup1, ↓x_tup2, ↓m_bits, ↓m_bits2, decide_eq_true_eq, Bool.true_and, Bool.and_true, Bool.not_true, Bool.not_false, Bool.false_eq_true, if_true, if_false, ite_true, ite_false, true_and, and_true, List.set_cons_zero, List.set_cons_succ, List.length_cons, List.length_nil, decide_true, decide_false, Bool.not_eq_true', decide_eq_false_iff_not, not_true_eq_false, not_false_eq_true, eq_self, reduceIte])
local macro_rules | `(tactic| walk_at "zh") => `(tactic| simp only [↓s_nil, ↓s_seq, ↓s_pass, ↓s_brk, ↓s_cont, ↓s_expr, ↓s_ret, ↓s_retn, ↓s_ifs, ↓s_asg, ↓s_par, ↓s_aug, ↓s_fors, ↓s_raise, ↓s_try, ↓p_get0, ↓p_getS, ↓e_var, ↓e_int, ↓e_bl, ↓e_non, ↓e_str, ↓e_gl, ↓e_ty, ↓e_bin, ↓e_un, ↓e_cmp, ↓e_chn, ↓e_vand, ↓e_vor, ↓e_vnot, ↓e_ife, ↓e_tup, ↓e_lst, ↓e_ix, ↓e_sl, ↓e_call, ↓e_callK, ↓e_blt, ↓e_mth, w_own0, w_own, w_nil, w_cons, ↓e_lc, ↓e_lc2, ↓e_dc, ↓e_dget, ↓e_dnew, ↓e_mnd, ↓e_dget1, ↓e_lvals, ↓e_fmt, ↓e_js, ↓e_op1, ↓e_op2, ↓i_it1, ↓i_it2, ↓i_it3, ↓s_augx, ↓j_nil, ↓j_cons, ↓fmt_str, ↓fmt_int, ↓strO_str, ↓i_enum, ↓i_zip, ↓enum_t, ↓zip_tt, ↓a_nil, ↓a_cons, ↓o_none, ↓o_some, ↓o_int, ↓t_tt, ↓t_tv, ↓t_cmp, ↓t_chn, ↓t_and, ↓t_or, ↓t_not, ↓ta_one, ↓ta_cons, ↓to_one, ↓to_cons, ↓va_one, ↓va_cons, ↓vo_one, ↓vo_cons, ↓i_seq, ↓i_rng1, ↓i_rng2, ↓rng1_int, ↓rng2_int, ↓seq_tupE, ↓seq_strE, ↓g_nm, ↓g_tup, ↓g_ix, ↓gs_nil, ↓gs_cons, ↓tru_bl, ↓tru_non, ↓tru_int, ↓tru_tup, ↓isBl_bl, ↓b_add, ↓b_adds, ↓b_addt, ↓b_sub, ↓b_mul, ↓b_div, ↓b_mod, ↓b_pow, ↓b_shl, ↓b_shr, ↓b_and, ↓b_or, ↓b_xor, ↓u_neg, ↓u_inv, ↓c_eq, ↓c_eqs, ↓c_eqb, ↓c_ne, ↓c_nes, ↓c_neb, ↓c_lt, ↓c_le, ↓c_gt, ↓c_ge, ↓au_add, ↓au_sub, ↓f_lent, ↓f_lens, ↓f_abs, ↓f_int, ↓f_intb, ↓f_max, ↓f_min, ↓f_tupt, ↓f_listt, ↓f_isi_ii, ↓f_isi_ib, ↓f_isi_it, ↓f_isi_is, ↓f_isi_il, ↓f_isi_tt, ↓f_isi_ti, ↓f_isi_tb, ↓f_isi_ts, ↓f_isi_tl, ↓f_isi_bb, ↓f_isi_bi, ↓f_isi_ss, ↓f_isi_st, ↓f_isi_si, ↓f_isi_sb, ↓f_str, ↓x_tup0, ↓x_tup1, ↓x_tup2, ↓m_bits, ↓m_bits2, decide_eq_true_eq, Bool.true_and, Bool.and_true, Bool.not_true, Bool.not_false, Bool.false_eq_true, if_true, if_false, ite_true, ite_false, true_and, and_true, List.set_cons_zero, List.set_cons_succ, List.length_cons, List.length_nil, decide_true, decide_false, Bool.not_eq_true', decide_eq_false_iff_not, not_true_eq_false, not_false_eq_true, eq_self, reduceIte, *])
/-! Y 13: the pool of k24 to k28 and k96: one list, whose first number counts the takes. -/
def PoolL (n : Nat) (xs : List PV) : Prop := ∃ (t : Int) (cs : List Int), xs = .int t :: cs.map PV.int ∧ 0 ≤ t ∧ t ≤ n ∧ cs ≠ [] ∧ cs.length ≤ 63 ∧ ∀ c ∈ cs, 0 ≤ c
theorem PoolL.up {n m : Nat} {xs : List PV} (h : PoolL n xs) (hl : n ≤ m) : PoolL m xs := by
  obtain ⟨t, cs, h1, h2, h3, h4⟩ := h
  exact ⟨t, cs, h1, h2, by omega, h4⟩
/-- M', but for the pool at p, tells all of M -/
def Tk (p : Addr) (n : Nat) (M M' : Mp) : Prop := ∃ xs, PoolL n xs ∧ M' p = some (.lst xs) ∧ Fg (mu M p (.lst xs)) M'
section
variable {p q : Addr} {n m : Nat} {M M' : Mp} {xs : List PV} {o : MO}
theorem Tk.one (h : PoolL n xs) : Tk p n M (mu M p (.lst xs)) := ⟨xs, h, mu_same, Fg.refl⟩
theorem Tk.zero (h : M p = some (.lst xs)) (h2 : PoolL n xs) : Tk p n M M := ⟨xs, h2, h, fg_at Fg.refl h⟩
theorem Tk.up (h : Tk p n M M') (hl : n ≤ m) : Tk p m M M' := by
  obtain ⟨xs, h1, h2, h3⟩ := h
  exact ⟨xs, h1.up hl, h2, h3⟩
theorem Tk.pool (h : Tk p n M M') : ∃ xs, M' p = some (.lst xs) ∧ PoolL n xs := by
  obtain ⟨xs, h1, h2, _⟩ := h
  exact ⟨xs, h2, h1⟩
theorem Tk.take (h : Tk p n M M') (hx : PoolL m xs) : Tk p m M (mu M' p (.lst xs)) := by
  obtain ⟨ys, h1, h2, h3⟩ := h
  refine ⟨xs, hx, mu_same, ?_⟩
  have := fg_mu2 (p := p) (o := .lst xs) h3
  rwa [mu_mu] at this
theorem Tk.fg {M2 : Mp} (h : Tk p n M M') (f : Fg M' M2) : Tk p n M M2 := by
  obtain ⟨ys, h1, h2, h3⟩ := h
  exact ⟨ys, h1, f.1 _ _ h2, h3.trans f⟩
/-- a new object, behind takes -/
theorem Tk.mu (h : Tk p n M M') (hq : M q = none) (hM : M p ≠ none) (ho : ∀ b, o ≠ .hid b) : Tk p n M (mu M' q o) := by
  obtain ⟨ys, h1, h2, h3⟩ := h
  have hpq : p ≠ q := fun z => by subst z; exact hM hq
  refine ⟨ys, h1, by rw [mu_ne hpq]; exact h2, fg_mu h3 (by rw [mu_ne (Ne.symm hpq)]; exact hq) ho⟩
theorem Tk.none (h : Tk p n M M') (hq : M' q = none) : M q = none ∧ p ≠ q := by
  obtain ⟨ys, h1, h2, h3⟩ := h
  have hpq : p ≠ q := fun z => by subst z; rw [h2] at hq; cases hq
  have := fg_none h3 hq
  rw [mu_ne (Ne.symm hpq)] at this
  exact ⟨this, hpq⟩
theorem Tk.keep (h : Tk p n M M') (hq : M q = some o) (hn : q ≠ p) : M' q = some o := by
  obtain ⟨ys, h1, h2, h3⟩ := h
  exact h3.1 _ _ (by rw [mu_ne hn]; exact hq)
theorem Tk.drop {Q : ZQ} {x : PV} (h : Tk p n M M') (hq : ∀ xs, PoolL n xs → Q x (Zd.mu M p (.lst xs))) : dropQ Q x M' := by
  obtain ⟨ys, h1, h2, h3⟩ := h
  exact dropQ_of h3 (hq ys h1)
theorem Tk.trans {M2 : Mp} (h : Tk p n M M') (h' : Tk p m M' M2) : Tk p m M M2 := by
  obtain ⟨xs, h1, h2, h3⟩ := h
  obtain ⟨ys, h4, h5, h6⟩ := h'
  refine ⟨ys, h4, h5, Fg.trans ?_ h6⟩
  have := fg_mu2 (p := p) (o := .lst ys) h3
  rwa [mu_mu] at this
end
def sp_law_pool3 : ZSp := fun xs M Q E => match xs with
  | [.fl xs] => (∃ ns : List Int, xs = ns.map PV.int) ∧ ∀ p ys, M p = none → PoolL 0 ys → Q (.ref p) (mu M p (.lst ys))
  | _ => False
def sp_law_take : ZSp := fun xs M Q E => match xs with
  | [.ref p, .int many] => ∃ n ys, (M p = some (.lst ys) ∧ PoolL n ys ∧ n < 2 ^ 60 ∧ 0 < many ∧ many < 2 ^ 60) ∧ ∀ (r : Int) xs, 0 ≤ r → r < many → PoolL (n + 1) xs → Q (.int r) (mu M p (.lst xs))
  | _ => False
def bPool3 (c0 : Int) : ZS :=
  (.seq (.asg (.nm 1) (.lc [(Str.ofString "cell", 2)] (.nm 2) (.seq (.sl (.var 0) .none (.some (.int 63)))) .tt (.blt .abs (.cons (.var 2) .nil)))) <|
  (.seq (.ifs (.cmp .Eq (.blt .len (.cons (.var 1) .nil)) (.int 0))
    (.seq (.expr (.mth .append (.var 1) (.cons (.int c0) .nil))) <|
    .nil)
    .nil) <|
  (.seq (.ret (.bin .Add (.lst (.cons (.int 0) .nil)) (.var 1))) <|
  .nil)))
theorem m_pool3 (c0 : Int) (hc : 0 ≤ c0) : Meets 3 1 (wpS (bPool3 c0)) sp_law_pool3 := by
  intro xs M Q E h
  unfold sp_law_pool3 at h
  split at h
  · rename_i xs
    obtain ⟨⟨ns, rfl⟩, hq⟩ := h
    refine ⟨rfl, ?_⟩
    show wpS (bPool3 c0) _ _ [some (.fl (ns.map PV.int)), none, none] M
    unfold bPool3
    try walk_at "z"
    intro q hq1
    obtain ⟨ys, ey, ly⟩ := cut_map PV.int ns none (some 63)
    have ly2 : ys.length ≤ 63 := Nat.le_trans ly (by unfold HT.sIx; simp; omega)
    rw [ey]
    show (match lget (mu _ q _) q with | some xs => _ | none => False)
    rw [lget_mu]
    refine lc_map PV.int (fun c => .int (if c < 0 then -c else c)) ys [] lget_mu (by simp; unfold sizeLine; omega) (fun c hc k hk => ?_) ?_
    · try walk_at "z"
      exact hk _ Fg.refl
    · intro a ha
      obtain ⟨haq, ha1⟩ := new_none ha
      rw [List.nil_append]
      have e : (ys.map fun n : Int => PV.int (if n < 0 then -n else n)) = (ys.map fun n : Int => if n < 0 then -n else n).map PV.int := by simp [Function.comp_def]
      rw [e]
      have hz : ∀ c ∈ (ys.map fun n : Int => if n < 0 then -n else n), 0 ≤ c := by
        intro c hc
        obtain ⟨y, _, rfl⟩ := List.mem_map.mp hc
        split <;> omega
      have hzl : (ys.map fun n : Int => if n < 0 then -n else n).length ≤ 63 := by rw [List.length_map]; exact ly2
      generalize (ys.map fun n : Int => if n < 0 then -n else n) = zs at hz hzl
      have fin : ∀ (zs : List Int) (M' : Mp), M' a = some (.lst (zs.map PV.int)) → Fg M M' → zs ≠ [] → zs.length ≤ 63 → (∀ c ∈ zs, 0 ≤ c) → wpS (.seq (.ret (.bin .Add (.lst (.cons (.int 0) .nil)) (.var 1))) .nil) ⟨dropQ Q, fun _ _ => False, fun _ _ => False, fun _ => E⟩ (fun _ M' => dropQ Q .non M') [some (.fl (ns.map PV.int)), some (.ref a), none] M' := by
        intro zs M' hM' fg h1 h2 h3
        try walk_at "z"
        refine ⟨Nat.le_of_ble_eq_true rfl, fun b hb => ?_⟩
        show bin2 .Add (.ref b) (.ref a) _ _
        rw [b_addl mu_same (at_new hb hM')]
        refine ⟨by simp; unfold sizeLine; omega, fun p hp => ?_⟩
        obtain ⟨hpb, hp1⟩ := new_none hp
        have hpM := fg_none fg hp1
        refine dropQ_of ?_ (hq p _ hpM ⟨0, zs, rfl, Int.le_refl _, Int.le_refl _, h1, h2, h3⟩)
        refine fg_mu2 (fg_mu fg (fg_none fg hb) nohid_l)
      have fg0 : Fg M (mu (mu M q (.lst (ys.map PV.int))) a (.lst (zs.map PV.int))) := fg_mu (fg_mu Fg.refl hq1 nohid_l) ha1 nohid_l
      generalize mu M q (.lst (ys.map PV.int)) = N at ha fg0
      try walk_at "z"
      rw [f_lenr lget_mu]
      try walk_at "z"
      rw [List.length_map]
      by_cases h0 : zs = []
      · subst h0
        rw [if_pos (by rfl)]
        refine ⟨by rw [m_lst (.inl rfl) lget_mu]; trivial, ?_⟩
        try walk_at "z"
        rw [m_app mu_same]
        refine ⟨Nat.lt_of_lt_of_le (by decide : 0 < 1) (Nat.le_of_ble_eq_true rfl), ?_⟩
        have := fin [c0] (M' := mu (mu N a (.lst ([].map PV.int))) a (.lst ([c0].map PV.int))) mu_same (by rw [mu_mu]; have := fg_mu (o := .lst ([c0].map PV.int)) fg0 ha1 nohid_l; rwa [mu_mu] at this) (by simp) (by simp) (by simpa using hc)
        exact this
      · rw [if_neg (by intro z; exact h0 (List.length_eq_zero_iff.mp (by omega)))]
        exact fin zs _ mu_same fg0 h0 hzl hz
  · exact h.elim
def sm64 (c : Int) : Prop := -(2 ^ 64) < c ∧ c < 2 ^ 64
instance (c : Int) : Decidable (sm64 c) := by unfold sm64; infer_instance
def bTakeK (a b c d e f g h : Int) : ZS :=
  (.seq (.asg (.nm 2) (.ix (.var 0) (.int 0))) <|
  (.seq (.asg (.ix (.var 0) (.int 0)) (.bin .Add (.var 2) (.int 1))) <|
  (.seq (.asg (.nm 3) (.bin .Add (.int 1) (.bin .Mod (.blt .int (.cons (.var 2) .nil)) (.bin .Sub (.blt .len (.cons (.var 0) .nil)) (.int 1))))) <|
  (.seq (.asg (.nm 4) (.ix (.var 0) (.var 3))) <|
  (.seq (.ifs (.cmp .GtE (.var 4) (.bin .Pow (.int 10) (.int 18)))
    (.seq (.asg (.ix (.var 0) (.var 3)) (.bin .FloorDiv (.var 4) (.var 1))) <|
    (.seq (.ret (.bin .Mod (.blt .int (.cons (.var 4) .nil)) (.var 1))) <|
    .nil))
    .nil) <|
  (.seq (.asg (.nm 5) (.bin .Mod (.blt .int (.cons (.bin .Add (.bin .Add (.bin .Mult (.var 4) (.int a)) (.bin .Mult (.var 2) (.int b))) (.int c)) .nil)) (.int 2147483629))) <|
  (.seq (.asg (.nm 5) (.bin .Mod (.blt .int (.cons (.bin .Add (.bin .Add (.bin .Mult (.var 5) (.int d)) (.bin .Mult (.bin .Mult (.var 2) (.var 2)) (.int e))) (.var 4)) .nil)) (.int 2147483587))) <|
  (.seq (.asg (.nm 5) (.bin .Mod (.blt .int (.cons (.bin .Add (.bin .Add (.bin .Mult (.var 5) (.int 69621)) (.bin .FloorDiv (.var 5) (.int f))) (.bin .Mult (.int g) (.var 2))) .nil)) (.int 2147483549))) <|
  (.seq (.ret (.bin .Mod (.blt .int (.cons (.bin .FloorDiv (.var 5) (.int h)) .nil)) (.var 1))) <|
  .nil)))))))))
theorem m_take (a b c d e f g h : Int) (ha : sm64 a) (hb : sm64 b) (hd : sm64 d) (he : sm64 e) (hf : 0 < f ∧ f < 1073741824) (hg : sm64 g) (hh : 0 < h ∧ h < 1073741824) : Meets 6 2 (wpS (bTakeK a b c d e f g h)) sp_law_take := by
  intro xs M Q E h
  unfold sp_law_take at h
  split at h
  · rename_i p many
    obtain ⟨n, ys, ⟨hM, ⟨t, cs, rfl, ht0, htn, hcs, hl, hpos⟩, hn, hm1, hm2⟩, hq⟩ := h
    refine ⟨rfl, ?_⟩
    show wpS (bTakeK a b c d e f g _) _ _ [some (.ref p), some (.int many), none, none, none, none] M
    unfold bTakeK
    have htl : t < 2 ^ 60 := by omega
    have ht64 : -(2 ^ 64) < t ∧ t < 2 ^ 64 := by omega
    have hdm : ∀ z, divOk z many := fun z => .inr <| .inl ⟨hm1, by
      have hlt : many.natAbs < 2 ^ 60 := by omega
      have := (Nat.log2_lt (by omega)).mpr hlt
      omega⟩
    have hcl : 0 < cs.length := by cases cs with | nil => exact absurd rfl hcs | cons _ _ => simp
    try walk_at "z"
    rw [x_ref (lget_of hM) (z := .int t) (atI_ok (by decide) rfl)]
    try walk_at "z"
    rw [set_ok hM (n := 0) (ixN_ok (by decide) (by rw [List.length_cons]; omega))]
    try walk_at "z"
    rw [f_lenr lget_mu]
    try walk_at "z"
    rw [List.length_map, show ((cs.length + 1 : Nat) : Int) - 1 = (cs.length : Int) by omega]
    refine ⟨by omega, ?_⟩
    have hj0 := Int.emod_nonneg t (show (cs.length : Int) ≠ 0 by omega)
    have hj1 := Int.emod_lt_of_pos t (show (0 : Int) < cs.length by omega)
    obtain ⟨j, ej⟩ : ∃ j : Nat, t % (cs.length : Int) = (j : Int) := ⟨(t % cs.length).toNat, by omega⟩
    rw [ej] at hj0 hj1 ⊢
    have hj : j < cs.length := by omega
    obtain ⟨cell, hcell, hcm⟩ := get_ex hj
    have hc0 := hpos cell hcm
    have eix : L2.atI (PV.int (t + 1) :: cs.map PV.int) (1 + (j : Int)) = some (.int cell) := atI_ok (by omega) (by
      rw [show (1 + (j : Int)).toNat = j + 1 by omega]
      simp [hcell])
    rw [x_ref lget_mu eix]
    try walk_at "z"
    refine ⟨⟨by decide, by decide, by decide⟩, ?_⟩
    by_cases hx : cell ≥ 10 ^ (18 : Int).toNat
    · rw [if_pos hx]
      refine ⟨hdm _, ?_⟩
      rw [set_ok mu_same (n := j + 1) (by rw [ixN_ok (by omega) (by rw [List.length_cons, List.length_map]; omega)]; congr 1; omega), mu_mu]
      refine ⟨hm1, dropQ_id (hq _ _ (Int.emod_nonneg _ (by omega)) (Int.emod_lt_of_pos _ hm1) ⟨t + 1, cs.set j (cell / many), ?_, by omega, by omega, ?_, by rw [List.length_set]; exact hl, ?_⟩)⟩
      · rw [List.map_set]; rfl
      · intro z
        have := congrArg List.length z
        rw [List.length_set, List.length_nil] at this
        omega
      · intro z hz
        rcases List.mem_or_eq_of_mem_set hz with h | h
        · exact hpos z h
        · subst h; exact Int.ediv_nonneg hc0 (by omega)
    · rw [if_neg hx]
      refine ⟨.inl (.inr ha), .inl (.inr hb), by decide, .inl (.inr hd), .inl (.inr ht64), .inl (.inr he), by decide, .inl (.inr (by decide)), .inl hf, .inl (.inr ht64), by decide, .inl hh, hm1, ?_⟩
      exact dropQ_id (hq _ _ (Int.emod_nonneg _ (by omega)) (Int.emod_lt_of_pos _ hm1) ⟨t + 1, cs, rfl, by omega, by omega, hcs, hl, hpos⟩)
  · exact h.elim

end Zd

set_option Elab.async false
set_option linter.all false
set_option maxRecDepth 100000
set_option maxHeartbeats 8000000
namespace K10
open PySem Zd
open L2 (V HO Hp)
local macro_rules | `(tactic| walk_at "z") => `(tactic| simp only [↓s_nil, ↓s_seq, ↓s_pass, ↓s_brk, ↓s_cont, ↓s_expr, ↓s_ret, ↓s_retn, ↓s_ifs, ↓s_asg, ↓s_par, ↓s_aug, ↓s_fors, ↓s_raise, ↓s_try, ↓s_tryC, ↓s_tryF, ↓j_one, ↓j_and, ↓j_z, ↓j_same, ↓ja_one, ↓ja_two, ↓jb_z, ↓jb_fld, ↓p_get0, ↓p_getS, ↓e_var, ↓e_int, ↓e_bl, ↓e_non, ↓e_str, ↓e_gl, ↓e_ty, ↓e_bin, ↓e_un, ↓e_cmp, ↓e_chn, ↓e_vand, ↓e_vor, ↓e_vnot, ↓e_ife, ↓e_tup, ↓e_lst, ↓e_ix, ↓e_sl, ↓e_call, ↓e_callK, ↓e_blt, ↓e_mth, w_own0, w_own, w_nil, w_cons, ↓e_lc, ↓e_lc2, ↓e_dc, ↓e_dget, ↓e_dnew, ↓e_mnd, ↓e_dget1, ↓e_lvals, ↓e_fmt, ↓e_js, ↓e_op1, ↓e_op2, ↓i_it1, ↓i_it2, ↓i_it3, ↓s_augx, ↓o_asT, ↓o_tupf, ↓o_tupt, ↓rvl_t, ↓indTo, th_ref, th_int, th_str, th_bl, th_non, th_tup, th_ftu, ths_nil, ths_cons, ↓j_nil, ↓j_cons, ↓fmt_str, ↓fmt_int, ↓strO_str, ↓i_enum, ↓i_zip, ↓enum_t, ↓zip_tt, ↓a_nil, ↓a_cons, ↓o_none, ↓o_some, ↓o_int, ↓t_tt, ↓t_tv, ↓t_cmp, ↓t_chn, ↓t_and, ↓t_or, ↓t_not, ↓ta_one, ↓ta_cons, ↓to_one, ↓to_cons, ↓va_one, ↓va_cons, ↓vo_one, ↓vo_cons, ↓i_seq, ↓i_rng1, ↓i_rng2, ↓rng1_int, ↓rng2_int, ↓seq_tupE, ↓seq_strE, ↓g_nm, ↓g_tup, ↓g_ix, ↓gs_nil, ↓gs_cons, ↓tru_bl, ↓tru_non, ↓tru_int, ↓tru_tup, ↓isBl_bl, ↓b_add, ↓b_adds, ↓b_addt, ↓b_sub, ↓b_mul, ↓b_div, ↓b_mod, ↓b_pow, ↓b_shl, ↓b_shr, ↓b_and, ↓b_or, ↓b_xor, ↓u_neg, ↓u_inv, ↓c_eq, ↓c_eqs, ↓c_eqb, ↓c_ne, ↓c_nes, ↓c_neb, ↓c_lt, ↓c_le, ↓c_gt, ↓c_ge, ↓au_add, ↓au_sub, ↓f_lent, ↓f_lens, ↓f_abs, ↓f_int, ↓f_intb, ↓f_max, ↓f_min, ↓f_tupt, ↓f_listt, ↓f_isi_ii, ↓f_isi_ib, ↓f_isi_it, ↓f_isi_is, ↓f_isi_il, ↓f_isi_tt, ↓f_isi_ti, ↓f_isi_tb, ↓f_isi_ts, ↓f_isi_tl, ↓f_isi_bb, ↓f_isi_bi, ↓f_isi_ss, ↓f_isi_st, ↓f_isi_si, ↓f_isi_sb, ↓f_str, ↓x_tup0, ↓x_tup1, ↓x_tup2, ↓m_bits, ↓m_bits2, decide_eq_true_eq, Bool.true_and, Bool.and_true, Bool.not_true, Bool.not_false, Bool.false_eq_true, if_true, if_false, ite_true, ite_false, true_and, and_true, List.set_cons_zero, List.set_cons_succ, List.length_cons, List.length_nil, decide_true, decide_false, Bool.not_eq_true', decide_eq_false_iff_not, not_true_eq_false, not_false_eq_true, eq_self, reduceIte])
local macro_rules | `(tactic| walk_at "zh") => `(tactic| simp only [↓s_nil, ↓s_seq, ↓s_pass, ↓s_brk, ↓s_cont, ↓s_expr, ↓s_ret, ↓s_retn, ↓s_ifs, ↓s_asg, ↓s_par, ↓s_aug, ↓s_fors, ↓s_raise, ↓s_try, ↓s_tryC, ↓s_tryF, ↓j_one, ↓j_and, ↓j_z, ↓j_same, ↓ja_one, ↓ja_two, ↓jb_z, ↓jb_fld, ↓p_get0, ↓p_getS, ↓e_var, ↓e_int, ↓e_bl, ↓e_non, ↓e_str, ↓e_gl, ↓e_ty, ↓e_bin, ↓e_un, ↓e_cmp, ↓e_chn, ↓e_vand, ↓e_vor, ↓e_vnot, ↓e_ife, ↓e_tup, ↓e_lst, ↓e_ix, ↓e_sl, ↓e_call, ↓e_callK, ↓e_blt, ↓e_mth, w_own0, w_own, w_nil, w_cons, ↓e_lc, ↓e_lc2, ↓e_dc, ↓e_dget, ↓e_dnew, ↓e_mnd, ↓e_dget1, ↓e_lvals, ↓e_fmt, ↓e_js, ↓e_op1, ↓e_op2, ↓i_it1, ↓i_it2, ↓i_it3, ↓s_augx, ↓o_asT, ↓o_tupf, ↓o_tupt, ↓rvl_t, ↓indTo, th_ref, th_int, th_str, th_bl, th_non, th_tup, th_ftu, ths_nil, ths_cons, ↓j_nil, ↓j_cons, ↓fmt_str, ↓fmt_int, ↓strO_str, ↓i_enum, ↓i_zip, ↓enum_t, ↓zip_tt, ↓a_nil, ↓a_cons, ↓o_none, ↓o_some, ↓o_int, ↓t_tt, ↓t_tv, ↓t_cmp, ↓t_chn, ↓t_and, ↓t_or, ↓t_not, ↓ta_one, ↓ta_cons, ↓to_one, ↓to_cons, ↓va_one, ↓va_cons, ↓vo_one, ↓vo_cons, ↓i_seq, ↓i_rng1, ↓i_rng2, ↓rng1_int, ↓rng2_int, ↓seq_tupE, ↓seq_strE, ↓g_nm, ↓g_tup, ↓g_ix, ↓gs_nil, ↓gs_cons, ↓tru_bl, ↓tru_non, ↓tru_int, ↓tru_tup, ↓isBl_bl, ↓b_add, ↓b_adds, ↓b_addt, ↓b_sub, ↓b_mul, ↓b_div, ↓b_mod, ↓b_pow, ↓b_shl, ↓b_shr, ↓b_and, ↓b_or, ↓b_xor, ↓u_neg, ↓u_inv, ↓c_eq, ↓c_eqs, ↓c_eqb, ↓c_ne, ↓c_nes, ↓c_neb, ↓c_lt, ↓c_le, ↓c_gt, ↓c_ge, ↓au_add, ↓au_sub, ↓f_lent, ↓f_lens, ↓f_abs, ↓f_int, ↓f_intb, ↓f_max, ↓f_min, ↓f_tupt, ↓f_listt, ↓f_isi_ii, ↓f_isi_ib, ↓f_isi_it, ↓f_isi_is, ↓f_isi_il, ↓f_isi_tt, ↓f_isi_ti, ↓f_isi_tb, ↓f_isi_ts, ↓f_isi_tl, ↓f_isi_bb, ↓f_isi_bi, ↓f_isi_ss, ↓f_isi_st, ↓f_isi_si, ↓f_isi_sb, ↓f_str, ↓x_tup0, ↓x_tup1, ↓x_tup2, ↓m_bits, ↓m_bits2, decide_eq_true_eq, Bool.true_and, Bool.and_true, Bool.not_true, Bool.not_false, Bool.false_eq_true, if_true, if_false, ite_true, ite_false, true_and, and_true, List.set_cons_zero, List.set_cons_succ, List.length_cons, List.length_nil, decide_true, decide_false, Bool.not_eq_true', decide_eq_false_iff_not, not_true_eq_false, not_false_eq_true, eq_self, reduceIte, *])
abbrev natP (b : Nat) : PV := .int (b : Nat)
/-! _law_number : 0 pool, 1 most, 2 habit -/
def N_law_number : List Str := [Str.ofString "pool", Str.ofString "most", Str.ofString "habit"]
def ps_law_number : List Str := [Str.ofString "pool", Str.ofString "most"]
def b_law_number : ZS :=
  (.seq (.asg (.nm 2) (.call (Str.ofString "_law_draw") 2 sp_law_draw (.cons (.var 0) (.cons (.int 5) .nil)))) <|
  (.seq (.ifs (.cmp .Eq (.var 2) (.int 0))
    (.seq (.ret (.int 0)) <|
    .nil)
    .nil) <|
  (.seq (.ifs (.cmp .Eq (.var 2) (.int 1))
    (.seq (.ret (.var 1)) <|
    .nil)
    .nil) <|
  (.seq (.ifs (.cmp .Eq (.var 2) (.int 2))
    (.seq (.ret (.call (Str.ofString "_law_draw") 2 sp_law_draw (.cons (.var 0) (.cons (.bin .Add (.blt .min (.cons (.var 1) (.cons (.int 3) .nil))) (.int 1)) .nil)))) <|
    .nil)
    .nil) <|
  (.seq (.ret (.call (Str.ofString "_law_draw") 2 sp_law_draw (.cons (.var 0) (.cons (.bin .Add (.var 1) (.int 1)) .nil)))) <|
  .nil)))))
theorem m_law_number : Meets 3 2 (wpS b_law_number) sp_law_number := by
  intro xs M Q E h
  unfold sp_law_number at h
  split at h
  · rename_i p n
    obtain ⟨⟨hp, h0, h1⟩, hq⟩ := h
    refine ⟨rfl, ?_⟩
    show wpS b_law_number _ _ [some (.ref p), some (.int n), none] M
    unfold b_law_number
    try walk_at "z"
    refine ⟨⟨hp, by decide⟩, fun r hr _ => ?_⟩
    try walk_at "z"
    by_cases a0 : r = 0
    · rw [if_pos a0]; exact dropQ_id (hq _ (Int.le_refl _) h0)
    · rw [if_neg a0]
      by_cases a1 : r = 1
      · rw [if_pos a1]; exact dropQ_id (hq _ h0 (Int.le_refl _))
      · rw [if_neg a1]
        by_cases a2 : r = 2
        · rw [if_pos a2]
          exact ⟨⟨hp, by omega⟩, fun x hx hx2 => dropQ_id (hq _ hx (by omega))⟩
        · rw [if_neg a2]
          exact ⟨⟨hp, by omega⟩, fun x hx hx2 => dropQ_id (hq _ hx (by omega))⟩
  · exact h.elim
theorem filt_map (p : Nat → Bool) : ∀ l : List Nat, (l.filterMap fun b => if p b = true then some (PV.int (b : Nat)) else none) = (l.filter p).map natP
  | [] => rfl
  | x :: l => by
    cases h : p x
    · rw [List.filterMap_cons_none (by simp [h]), List.filter_cons_of_neg (by simp [h]), filt_map p l]
    · rw [List.filterMap_cons_some (b := PV.int (x : Nat)) (by simp [h]), List.filter_cons_of_pos (by simp [h]), filt_map p l]; rfl
def sp_members_of : ZSp := fun xs M Q E => match xs with
  | [.int l] => ∃ k n : Nat, (l = (k : Nat) ∧ k < 2 ^ n ∧ n ≤ 20) ∧ Q (.tup (((List.range n).filter k.testBit).map natP)) M
  | _ => False
/-! members_of : 0 lot, 1 box -/
def N_members_of : List Str := [Str.ofString "lot", Str.ofString "box"]
def ps_members_of : List Str := [Str.ofString "lot"]
def b_members_of : ZS :=
  (.seq (.ret (.blt .tuple (.cons (.lc [(Str.ofString "box", 1)] (.nm 1) (.rng1 (.mth .bits (.var 0) .nil)) (.tv (.bin .BitAnd (.bin .RShift (.var 0) (.var 1)) (.int 1))) (.var 1)) .nil))) <|
  .nil)
theorem m_members_of : Meets 2 1 (wpS b_members_of) sp_members_of := by
  intro xs M Q E h
  unfold sp_members_of at h
  split at h
  · rename_i l
    obtain ⟨k, n, ⟨rfl, hk, hn⟩, hq⟩ := h
    refine ⟨rfl, ?_⟩
    show wpS b_members_of _ _ [some (.int k), none] M
    unfold b_members_of
    have hB : Builtin.Int.intBits (k : Int) ≤ n := intBits_le_iff.mpr hk
    try walk_at "z"
    refine ⟨by unfold smallI; omega, ?_⟩
    try rw [Int.toNat_natCast]
    refine lc_fm (fun b : Nat => PV.int (0 + (b : Int))) (fun b : Nat => if k.testBit b = true then some (PV.int (b : Nat)) else none) (List.range (Builtin.Int.intBits (k : Int))) [] trivial (by simp; unfold sizeLine; omega) (fun b hb kk hkk => ?_) ?_
    · try walk_at "z"
      rw [Int.zero_add, Int.toNat_natCast, bit_int]
      refine ⟨by omega, ?_⟩
      by_cases c : k.testBit b = true
      · rw [if_pos c] at hkk ⊢
        exact hkk _ Fg.refl
      · rw [if_neg c] at hkk ⊢
        exact hkk _ Fg.refl
    · intro q hq1
      rw [List.nil_append, filt_map, filt_eq (b := n) (fun s h => bits_top h) (fun s h => bits_of_lt hk h)]
      show bltP _ _ _ _
      rw [f_tupl lget_mu]
      exact dropQ_of (fg_mu Fg.refl hq1 nohid_l) hq
  · exact h.elim
theorem sl_listP {M : Mp} {p : Addr} {xs : List PV} {lo hi : Option Int} {Q : ZQ} (h : lget M p = some xs) : slP (.ref p) lo hi M Q = ∀ q, M q = none → Q (.ref q) (mu M q (.lst (cutP xs lo hi))) := by
  show (match lget M p with | some xs => _ | none => False) = _
  rw [h]
theorem m_ext {p q : Addr} {M : Mp} {xs ys : List PV} {Q : ZQ} (h : M p = some (.lst xs)) (h' : M q = some (.lst ys)) : mthP .extend (.ref p) [.ref q] M Q = (xs.length + ys.length ≤ sizeLine ∧ Q .non (mu M p (.lst (xs ++ ys)))) := by
  show (match M p, M q with | some (.lst ys), some (.lst zs) => _ | _, _ => False) = _
  rw [h, h']
theorem cut_take {xs : List PV} {k : Nat} (h : k ≤ xs.length) : cutP xs none (some (k : Int)) = xs.take k := by
  unfold cutP
  have e1 : HT.sIx xs.length 0 none = 0 := rfl
  have e2 : HT.sIx xs.length xs.length (some (k : Int)) = k := by
    unfold HT.sIx; dsimp only; split <;> omega
  rw [e1, e2, List.drop_zero, Nat.sub_zero]
theorem cpow1 (b : Nat) (h : b ≤ 1000) : L2.CPow 1 (b : Int) := ⟨by omega, by omega, by decide⟩
theorem pw8 {n : Nat} (h : n ≤ 8) : 2 ^ n ≤ 256 := by
  have : 2 ^ n ≤ 2 ^ 8 := Nat.pow_le_pow_right (by decide) h
  omega
theorem or_step {a b : Nat} : Builtin.bitOr ((a : Nat) : Int) ((1 : Int) * 2 ^ ((b : Int)).toNat) = ((a ||| 2 ^ b : Nat) : Int) := by
  rw [pow_shl, Bits.bitOr_pp (Int.natCast_nonneg _) (Int.natCast_nonneg _), Int.toNat_natCast, Int.toNat_natCast]
theorem fil_g (p : Nat → Prop) [DecidablePred p] : ∀ l : List Nat, (l.filterMap fun b => if p b then some (natP b) else none) = (l.filter fun b => decide (p b)).map natP
  | [] => rfl
  | x :: l => by
    by_cases h : p x
    · rw [List.filterMap_cons_some (b := natP x) (by simp [h]), List.filter_cons_of_pos (by simp [h]), fil_g p l]; rfl
    · rw [List.filterMap_cons_none (by simp [h]), List.filter_cons_of_neg (by simp [h]), fil_g p l]
theorem fil_f (f : Nat → PV) (p : Nat → Prop) [DecidablePred p] : ∀ l : List Nat, (l.filterMap fun b => if p b then some (f b) else none) = (l.filter fun b => decide (p b)).map f
  | [] => rfl
  | x :: l => by
    by_cases h : p x
    · rw [List.filterMap_cons_some (b := f x) (by simp [h]), List.filter_cons_of_pos (by simp [h]), fil_f f p l]; rfl
    · rw [List.filterMap_cons_none (by simp [h]), List.filter_cons_of_neg (by simp [h]), fil_f f p l]
/-! lots by their members -/
def cn (l : Nat) : Nat := ((List.range 10).filter l.testBit).length
def lotsN (n : Nat) (m : Int) : List Nat := (List.range (2 ^ n)).filter fun l => decide ((cn l : Int) = m)
theorem lotsN_len {n : Nat} {m : Int} (h : n ≤ 8) : (lotsN n m).length ≤ 256 := by
  have := List.length_filter_le (fun l => decide ((cn l : Int) = m)) (List.range (2 ^ n))
  rw [List.length_range] at this
  have := pw8 h
  unfold lotsN
  omega
theorem fm_len {α β : Type} {f : α → List β} {c : Nat} : ∀ {l : List α}, (∀ x ∈ l, (f x).length ≤ c) → (l.flatMap f).length ≤ l.length * c
  | [], _ => by simp
  | x :: l, h => by
    have h1 := h x List.mem_cons_self
    have h2 := fm_len fun y hy => h y (List.mem_cons_of_mem _ hy)
    rw [List.flatMap_cons, List.length_append, List.length_cons, Nat.succ_mul]
    omega
theorem lotsN_mem {n : Nat} {m : Int} {l : Nat} : l ∈ lotsN n m ↔ l < 2 ^ n ∧ (cn l : Int) = m := by
  unfold lotsN
  rw [List.mem_filter, List.mem_range, decide_eq_true_eq]
def sp_members_count : ZSp := fun xs M Q E => match xs with
  | [.int l] => ∃ k : Nat, (l = (k : Nat) ∧ k < 2 ^ 10) ∧ Q (natP (cn k)) M
  | _ => False
/-! members_count : 0 lot -/
def N_members_count : List Str := [Str.ofString "lot"]
def ps_members_count : List Str := [Str.ofString "lot"]
def b_members_count : ZS :=
  (.seq (.ret (.blt .len (.cons (.call (Str.ofString "members_of") 1 sp_members_of (.cons (.var 0) .nil)) .nil))) <|
  .nil)
theorem m_members_count : Meets 1 1 (wpS b_members_count) sp_members_count := by
  intro xs M Q E h
  unfold sp_members_count at h
  split at h
  · rename_i l
    obtain ⟨k, ⟨rfl, hk⟩, hq⟩ := h
    refine ⟨rfl, ?_⟩
    show wpS b_members_count _ _ [some (.int k)] M
    unfold b_members_count
    try walk_at "z"
    refine ⟨k, 10, ⟨rfl, hk, by decide⟩, ?_⟩
    try walk_at "z"
    rw [List.length_map]
    exact dropQ_id hq
  · exact h.elim
def sp_lots_of : ZSp := fun xs M Q E => match xs with
  | [.int b, .int m] => ∃ n : Nat, (b = (n : Nat) ∧ n ≤ 8) ∧ Q (.tup ((lotsN n m).map natP)) M
  | _ => False
/-! lots_of : 0 boxes, 1 many, 2 lot -/
def N_lots_of : List Str := [Str.ofString "boxes", Str.ofString "many", Str.ofString "lot"]
def ps_lots_of : List Str := [Str.ofString "boxes", Str.ofString "many"]
def b_lots_of : ZS :=
  (.seq (.ret (.blt .tuple (.cons (.lc [(Str.ofString "lot", 2)] (.nm 2) (.rng1 (.bin .LShift (.int 1) (.var 0))) (.cmp .Eq (.call (Str.ofString "members_count") 1 sp_members_count (.cons (.var 2) .nil)) (.var 1)) (.var 2)) .nil))) <|
  .nil)
theorem m_lots_of : Meets 3 2 (wpS b_lots_of) sp_lots_of := by
  intro xs M Q E h
  unfold sp_lots_of at h
  split at h
  · rename_i b m
    obtain ⟨n, ⟨rfl, hn⟩, hq⟩ := h
    refine ⟨rfl, ?_⟩
    show wpS b_lots_of _ _ [some (.int n), some (.int m), none] M
    unfold b_lots_of
    have h2 := pw8 hn
    have hp0 := Nat.two_pow_pos n
    try walk_at "z"
    rw [pow_shl]
    refine ⟨cpow1 _ (by omega), ⟨by omega, by omega⟩, ?_⟩
    rw [Int.toNat_natCast]
    refine lc_fm (fun l : Nat => PV.int (0 + (l : Int))) (fun l : Nat => if (cn l : Int) = m then some (natP l) else none) (List.range (2 ^ n)) [] trivial (by simp; unfold sizeLine; omega) (fun l hl kk hkk => ?_) ?_
    · have hl := List.mem_range.mp hl
      try walk_at "z"
      rw [Int.zero_add]
      refine ⟨l, ⟨rfl, by omega⟩, ?_⟩
      try walk_at "z"
      by_cases c : (cn l : Int) = m
      · rw [if_pos c] at hkk ⊢
        exact hkk _ Fg.refl
      · rw [if_neg c] at hkk ⊢
        exact hkk _ Fg.refl
    · intro q hq1
      rw [List.nil_append, fil_g (fun l => (cn l : Int) = m)]
      show bltP _ _ _ _
      rw [f_tupl lget_mu]
      exact dropQ_of (fg_mu Fg.refl hq1 nohid_l) hq
  · exact h.elim
theorem fm_map {α β γ : Type} (f : β → γ) (g : α → List β) : ∀ l : List α, (l.flatMap fun x => (g x).map f) = (l.flatMap g).map f
  | [] => rfl
  | x :: l => by rw [List.flatMap_cons, List.flatMap_cons, List.map_append, fm_map f g l]
def tN (c : String) (b : Nat) : Str := Str.ofString c ++ (toString (b : Int) : String)
theorem tn_len {c : String} {b : Nat} (hc : (Str.ofString c).length = 1) (h : b < 1000) : (tN c b).length ≤ sizeLine := by
  unfold tN
  rw [str_len, hc]
  have := num_len (n := (b : Int)) (by omega) (by omega)
  unfold sizeLine
  omega
def namesV (n : Nat) : List PV := (List.range n).map fun b => PV.str (tN "b" b)
def putV (n : Nat) (room : Int) : PV := .tup [.str (Str.ofString "outside"), .tup [], .tup [.tup [.str (Str.ofString "put"), .tup ((List.range n).map fun b => .tup [natP b, .int room, .tup [.tup [.int (-1), .int room]]]), .int 1]]]
def offs (l n : Nat) : List Nat := (List.range n).filter fun b => decide (¬ l.testBit b = true)
def ons (l n : Nat) : List Nat := (List.range n).filter l.testBit
def sp_box_names : ZSp := fun xs M Q E => match xs with
  | [.int b] => ∃ n : Nat, (b = (n : Nat) ∧ n ≤ 8) ∧ Q (.tup (namesV n)) M
  | _ => False
/-! box_names : 0 boxes, 1 box -/
def N_box_names : List Str := [Str.ofString "boxes", Str.ofString "box"]
def ps_box_names : List Str := [Str.ofString "boxes"]
def b_box_names : ZS :=
  (.seq (.ret (.blt .tuple (.cons (.lc [(Str.ofString "box", 1)] (.nm 1) (.rng1 (.var 0)) .tt (.js (.cons (.str (Str.ofString "b")) (.cons (.fmt (.var 1)) .nil)))) .nil))) <|
  .nil)
theorem m_box_names : Meets 2 1 (wpS b_box_names) sp_box_names := by
  intro xs M Q E h
  unfold sp_box_names at h
  split at h
  · rename_i b
    obtain ⟨n, ⟨rfl, hn⟩, hq⟩ := h
    refine ⟨rfl, ?_⟩
    show wpS b_box_names _ _ [some (.int n), none] M
    unfold b_box_names
    try walk_at "z"
    refine ⟨⟨by omega, by omega⟩, ?_⟩
    rw [Int.toNat_natCast]
    refine lc_map (fun b : Nat => PV.int (0 + (b : Int))) (fun b : Nat => PV.str (tN "b" b)) (List.range n) [] trivial (by simp; unfold sizeLine; omega) (fun b hb kk hkk => ?_) ?_
    · have hb := List.mem_range.mp hb
      try walk_at "z"
      rw [Int.zero_add, strE]
      exact ⟨by decide, num_log (by omega) (by omega), tn_len (by decide) (by omega), hkk _ Fg.refl⟩
    · intro q hq1
      rw [List.nil_append]
      show bltP _ _ _ _
      rw [f_tupl lget_mu]
      exact dropQ_of (fg_mu Fg.refl hq1 nohid_l) hq
  · exact h.elim
def sp_put_standing : ZSp := fun xs M Q E => match xs with
  | [.int b, .int room] => ∃ n : Nat, (b = (n : Nat) ∧ n ≤ 8) ∧ Q (putV n room) M
  | _ => False
/-! put_standing : 0 boxes, 1 room, 2 steps, 3 box -/
def N_put_standing : List Str := [Str.ofString "boxes", Str.ofString "room", Str.ofString "steps", Str.ofString "box"]
def ps_put_standing : List Str := [Str.ofString "boxes", Str.ofString "room"]
def b_put_standing : ZS :=
  (.seq (.asg (.nm 2) (.lc [(Str.ofString "box", 3)] (.nm 3) (.rng1 (.var 0)) .tt (.tup (.cons (.var 3) (.cons (.var 1) (.cons (.tup (.cons (.tup (.cons (.un .USub (.int 1)) (.cons (.var 1) .nil))) .nil)) .nil)))))) <|
  (.seq (.ret (.tup (.cons (.str (Str.ofString "outside")) (.cons (.tup .nil) (.cons (.tup (.cons (.tup (.cons (.str (Str.ofString "put")) (.cons (.blt .tuple (.cons (.var 2) .nil)) (.cons (.int 1) .nil)))) .nil)) .nil))))) <|
  .nil))
theorem m_put_standing : Meets 4 2 (wpS b_put_standing) sp_put_standing := by
  intro xs M Q E h
  unfold sp_put_standing at h
  split at h
  · rename_i b room
    obtain ⟨n, ⟨rfl, hn⟩, hq⟩ := h
    refine ⟨rfl, ?_⟩
    show wpS b_put_standing _ _ [some (.int n), some (.int room), none, none] M
    unfold b_put_standing
    try walk_at "z"
    refine ⟨⟨by omega, by omega⟩, ?_⟩
    rw [Int.toNat_natCast]
    refine lc_map (fun b : Nat => PV.int (0 + (b : Int))) (fun b : Nat => .tup [natP b, .int room, .tup [.tup [.int (-1), .int room]]]) (List.range n) [] trivial (by simp; unfold sizeLine; omega) (fun b hb kk hkk => ?_) ?_
    · have hb := List.mem_range.mp hb
      try walk_at "z"
      rw [Int.zero_add]
      exact ⟨by decide, by decide, by decide, hkk _ Fg.refl⟩
    · intro q hq1
      rw [List.nil_append]
      try walk_at "z"
      rw [f_tupl lget_mu]
      try walk_at "z"
      exact ⟨by decide, by decide, by decide, by decide, dropQ_of (fg_mu Fg.refl hq1 nohid_l) hq⟩
  · exact h.elim
theorem offs_len {l n : Nat} : (offs l n).length ≤ n := by
  have := List.length_filter_le (fun b => decide (¬ l.testBit b = true)) (List.range n)
  rw [List.length_range] at this
  exact this
theorem ons_len {l n : Nat} : (ons l n).length ≤ n := by
  have := List.length_filter_le l.testBit (List.range n)
  rw [List.length_range] at this
  exact this
/-! ### books -/
def mstp (n b : Nat) (room am : Int) (l : Nat) : PV := .tup [natP b, .int room, .tup ((ons l n).map fun h => .tup [natP h, .int am])]
def lotsB (n : Nat) (h : Int) (b : Nat) : List Nat := (lotsN n h).filter fun l => decide (¬ l.testBit b = true)
def hsteps (n b : Nat) (h room am : Int) : List PV := (lotsB n h b).map (mstp n b room am)
def allSt (n : Nat) (h room am : Int) : List PV := (List.range n).flatMap fun b => hsteps n b h room am
def mvN (c : String) (p : PV × Nat) : PV := .tup [.str (tN c p.2), .tup [p.1], .int 1]
def symV (n : Nat) (m h room am : Int) : PV := .tup [.tup (namesV n), .tup [putV n room, .tup [.str (Str.ofString "outside"), .tup ((lotsN n m).map natP), .tup ((allSt n h room am).zipIdx.map (mvN "f"))]]]
def fMv (b : Nat) : PV := .tup [.str (tN "f" b), .tup [], .int (2 + (b : Int))]
def hSt (n : Nat) (h room am : Int) (b : Nat) : PV := .tup [.str (Str.ofString "house"), .tup [], .tup ((hsteps n b h room am).zipIdx.map (mvN "h"))]
def choV (n : Nat) (m h room am : Int) : PV := .tup [.tup (namesV n), .tup ([putV n room, .tup [.str (Str.ofString "outside"), .tup ((lotsN n m).map natP), .tup ((List.range n).map fMv)]] ++ (List.range n).map (hSt n h room am))]
theorem lotsB_len {n b : Nat} {h : Int} (hn : n ≤ 8) : (lotsB n h b).length ≤ 256 := by
  have := List.length_filter_le (fun l => decide (¬ l.testBit b = true)) (lotsN n h)
  have := lotsN_len (m := h) hn
  unfold lotsB
  omega
theorem hst_len {n b : Nat} {h room am : Int} (hn : n ≤ 8) : (hsteps n b h room am).length ≤ 256 := by
  unfold hsteps; rw [List.length_map]; exact lotsB_len hn
theorem all_len {n : Nat} {h room am : Int} (hn : n ≤ 8) : (allSt n h room am).length ≤ 2048 := by
  have := fm_len (f := fun b => hsteps n b h room am) (c := 256) (l := List.range n) fun _ _ => hst_len hn
  rw [List.length_range] at this
  unfold allSt
  omega
theorem enum_pv (L : List PV) : ∀ k : Nat, enumL k L = (L.zipIdx k).map (fun p => PV.tup [.int (p.2 : Nat), p.1]) := fun k => by
  have := enumL_map (fun x : PV => x) L k
  rw [List.map_id'] at this
  exact this
def sp_made_step : ZSp := fun xs M Q E => match xs with
  | [.int b, .int room, .int lt, .int am] => ∃ b' n l : Nat, (b = (b' : Nat) ∧ lt = (l : Nat) ∧ l < 2 ^ n ∧ n ≤ 8) ∧ Q (mstp n b' room am l) M
  | _ => False
/-! made_step : 0 box, 1 room, 2 lot, 3 amount, 4 helper -/
def N_made_step : List Str := [Str.ofString "box", Str.ofString "room", Str.ofString "lot", Str.ofString "amount", Str.ofString "helper"]
def ps_made_step : List Str := [Str.ofString "box", Str.ofString "room", Str.ofString "lot", Str.ofString "amount"]
def b_made_step : ZS :=
  (.seq (.ret (.tup (.cons (.var 0) (.cons (.var 1) (.cons (.blt .tuple (.cons (.lc [(Str.ofString "helper", 4)] (.nm 4) (.seq (.call (Str.ofString "members_of") 1 sp_members_of (.cons (.var 2) .nil))) .tt (.tup (.cons (.var 4) (.cons (.var 3) .nil)))) .nil)) .nil))))) <|
  .nil)
theorem m_made_step : Meets 5 4 (wpS b_made_step) sp_made_step := by
  intro xs M Q E h
  unfold sp_made_step at h
  split at h
  · rename_i b room rest am
    obtain ⟨b, n, l, ⟨rfl, rfl, hl, hn⟩, hq⟩ := h
    refine ⟨rfl, ?_⟩
    show wpS b_made_step _ _ [some (.int b), some (.int room), some (.int l), some (.int am), none] M
    unfold b_made_step
    have hol := ons_len (l := l) (n := n)
    try walk_at "z"
    refine ⟨l, n, ⟨rfl, hl, by omega⟩, ?_⟩
    show seqP _ _ _
    rw [seq_tupE]
    refine lc_map natP (fun h : Nat => .tup [natP h, .int am]) (ons l n) [] trivial (by rw [List.length_nil]; unfold sizeLine; omega) (fun h hh kk hkk => ?_) ?_
    · try walk_at "z"
      exact ⟨by decide, hkk _ Fg.refl⟩
    · intro q hq1
      rw [List.nil_append]
      show bltP _ _ _ _
      rw [f_tupl lget_mu]
      try walk_at "z"
      exact ⟨by decide, dropQ_of (fg_mu Fg.refl hq1 nohid_l) hq⟩
  · exact h.elim
def sp_helper_steps : ZSp := fun xs M Q E => match xs with
  | [.int n', .int b', .int h, .int room, .int am] => ∃ n b : Nat, (n' = (n : Nat) ∧ n ≤ 8 ∧ b' = (b : Nat)) ∧ ∀ (M' : Mp) (a : Addr), Fg M M' → M' a = some (.lst (hsteps n b h room am)) → M a = none → Q (.ref a) M'
  | _ => False
/-! helper_steps : 0 boxes, 1 box, 2 helpers, 3 room, 4 amount, 5 lots, 6 lot -/
def N_helper_steps : List Str := [Str.ofString "boxes", Str.ofString "box", Str.ofString "helpers", Str.ofString "room", Str.ofString "amount", Str.ofString "lots", Str.ofString "lot"]
def ps_helper_steps : List Str := [Str.ofString "boxes", Str.ofString "box", Str.ofString "helpers", Str.ofString "room", Str.ofString "amount"]
def b_helper_steps : ZS :=
  (.seq (.asg (.nm 5) (.lc [(Str.ofString "lot", 6)] (.nm 6) (.seq (.call (Str.ofString "lots_of") 2 sp_lots_of (.cons (.var 0) (.cons (.var 2) .nil)))) (.not (.tv (.bin .BitAnd (.bin .RShift (.var 6) (.var 1)) (.int 1)))) (.var 6))) <|
  (.seq (.ret (.lc [(Str.ofString "lot", 6)] (.nm 6) (.seq (.var 5)) .tt (.call (Str.ofString "made_step") 4 sp_made_step (.cons (.var 1) (.cons (.var 3) (.cons (.var 6) (.cons (.var 4) .nil))))))) <|
  .nil))
theorem m_helper_steps : Meets 7 5 (wpS b_helper_steps) sp_helper_steps := by
  intro xs M Q E h
  unfold sp_helper_steps at h
  split at h
  · rename_i n' b' h room am
    obtain ⟨n, b, ⟨rfl, hn, rfl⟩, hq⟩ := h
    refine ⟨rfl, ?_⟩
    show wpS b_helper_steps _ _ [some (.int n), some (.int b), some (.int h), some (.int room), some (.int am), none, none] M
    unfold b_helper_steps
    have hlen := lotsN_len (m := h) hn
    have hlb := lotsB_len (h := h) (b := b) hn
    try walk_at "z"
    refine ⟨n, ⟨rfl, hn⟩, ?_⟩
    show seqP _ _ _
    rw [seq_tupE]
    refine lc_fm natP (fun l : Nat => if ¬ l.testBit b = true then some (natP l) else none) (lotsN n h) [] trivial (by rw [List.length_nil]; unfold sizeLine; omega) (fun l hl kk hkk => ?_) ?_
    · try walk_at "z"
      rw [Int.toNat_natCast, bit_int]
      refine ⟨by omega, ?_⟩
      by_cases c : l.testBit b = true
      · rw [if_pos c]
        rw [if_neg (fun z => z c)] at hkk
        try walk_at "z"
        exact hkk _ Fg.refl
      · rw [if_neg c]
        rw [if_pos c] at hkk
        try walk_at "z"
        exact hkk _ Fg.refl
    intro q hq1
    rw [List.nil_append, fil_g (fun l => ¬ l.testBit b = true)]
    have eb : ((lotsN n h).filter fun l => decide (¬ l.testBit b = true)) = lotsB n h b := rfl
    rw [eb]
    have fg1 := fg_mu (o := .lst ((lotsB n h b).map natP)) Fg.refl hq1 nohid_l
    show seqP _ (mu M q (.lst ((lotsB n h b).map natP))) _
    rw [seq_refE lget_mu]
    refine lc_map natP (mstp n b room am) (lotsB n h b) [] lget_mu (by rw [List.length_nil]; unfold sizeLine; omega) (fun l hl kk hkk => ?_) ?_
    · try walk_at "z"
      have hl2 := (lotsN_mem.mp (List.mem_filter.mp hl).1).1
      exact ⟨b, n, l, ⟨rfl, rfl, hl2, hn⟩, hkk _ Fg.refl⟩
    · intro q2 hq2
      rw [List.nil_append]
      exact dropQ_id (hq _ q2 (fg_new fg1 hq2 nohid_l) mu_same (fg_none fg1 hq2))
  · exact h.elim
abbrev k_BOXES_MOST : PV := .int 8
abbrev k_MOVES_MOST : PV := .int 150
def RefB (n : Nat) (h : Int) : Prop := 8 < n ∨ 150 < (allSt n h 0 0).length
theorem all_len_eq {n : Nat} {h room am : Int} : (allSt n h room am).length = (allSt n h 0 0).length := by
  unfold allSt hsteps
  rw [List.length_flatMap, List.length_flatMap]
  simp only [List.length_map]
def sp_symmetric_book : ZSp := fun xs M Q E => match xs with
  | [.int n', .int m, .int h, .int room, .int am] => ∃ n : Nat, (n' = (n : Nat) ∧ n ≤ 20) ∧ (¬ RefB n h → Q (symV n m h room am) M) ∧ (RefB n h → E (Str.ofString "BadCall") [(Str.ofString "word", .str (Str.ofString "limit"))] M)
  | _ => False
/-! symmetric_book : 0 boxes, 1 many, 2 helpers, 3 room, 4 amount, 5 steps, 6 box, 7 step, 8 moves, 9 number, 10 second -/
def N_symmetric_book : List Str := [Str.ofString "boxes", Str.ofString "many", Str.ofString "helpers", Str.ofString "room", Str.ofString "amount", Str.ofString "steps", Str.ofString "box", Str.ofString "step", Str.ofString "moves", Str.ofString "number", Str.ofString "second"]
def ps_symmetric_book : List Str := [Str.ofString "boxes", Str.ofString "many", Str.ofString "helpers", Str.ofString "room", Str.ofString "amount"]
def b_symmetric_book : ZS :=
  (.seq (.ifs (.cmp .Gt (.var 0) (.gl (Str.ofString "BOXES_MOST") k_BOXES_MOST))
    (.seq (.raise (Str.ofString "BadCall") [Str.ofString "word"] (.cons (.str (Str.ofString "limit")) .nil)) <|
    .nil)
    .nil) <|
  (.seq (.asg (.nm 5) (.lc2 [(Str.ofString "box", 6), (Str.ofString "step", 7)] (.nm 6) (.rng1 (.var 0)) .tt [7] (.nm 7) (.seq (.call (Str.ofString "helper_steps") 5 sp_helper_steps (.cons (.var 0) (.cons (.var 6) (.cons (.var 2) (.cons (.var 3) (.cons (.var 4) .nil))))))) .tt (.var 7))) <|
  (.seq (.ifs (.cmp .Gt (.blt .len (.cons (.var 5) .nil)) (.gl (Str.ofString "MOVES_MOST") k_MOVES_MOST))
    (.seq (.raise (Str.ofString "BadCall") [Str.ofString "word"] (.cons (.str (Str.ofString "limit")) .nil)) <|
    .nil)
    .nil) <|
  (.seq (.asg (.nm 8) (.lc [(Str.ofString "number", 9), (Str.ofString "step", 7)] (.tup 2 (.cons (.nm 9) (.cons (.nm 7) .nil))) (.enum (.var 5)) .tt (.tup (.cons (.js (.cons (.str (Str.ofString "f")) (.cons (.fmt (.var 9)) .nil))) (.cons (.tup (.cons (.var 7) .nil)) (.cons (.int 1) .nil)))))) <|
  (.seq (.asg (.nm 10) (.tup (.cons (.str (Str.ofString "outside")) (.cons (.call (Str.ofString "lots_of") 2 sp_lots_of (.cons (.var 0) (.cons (.var 1) .nil))) (.cons (.blt .tuple (.cons (.var 8) .nil)) .nil))))) <|
  (.seq (.ret (.tup (.cons (.call (Str.ofString "box_names") 1 sp_box_names (.cons (.var 0) .nil)) (.cons (.tup (.cons (.call (Str.ofString "put_standing") 2 sp_put_standing (.cons (.var 0) (.cons (.var 3) .nil))) (.cons (.var 10) .nil))) .nil)))) <|
  .nil))))))
theorem m_symmetric_book : Meets 11 5 (wpS b_symmetric_book) sp_symmetric_book := by
  intro xs M Q E h
  unfold sp_symmetric_book at h
  split at h
  · rename_i n' m h room am
    obtain ⟨n, ⟨rfl, hn⟩, hq, hE⟩ := h
    refine ⟨rfl, ?_⟩
    show wpS b_symmetric_book _ _ [some (.int n), some (.int m), some (.int h), some (.int room), some (.int am), none, none, none, none, none, none] M
    unfold b_symmetric_book
    try walk_at "z"
    by_cases c : (8 : Int) < (n : Int)
    · rw [if_pos c]
      exact ⟨by decide, M, Fg.refl.sg, hE (.inl (by omega))⟩
    rw [if_neg c]
    have hn : n ≤ 8 := by omega
    have hal := all_len (n := n) (h := h) (room := room) (am := am) hn
    refine ⟨⟨by omega, by omega⟩, ?_⟩
    rw [Int.toNat_natCast]
    refine lc2_map (fun b : Nat => PV.int (0 + (b : Int))) (fun b : Nat => hsteps n b h room am) (List.range n) [] trivial (by rw [List.nil_append]; exact Nat.le_trans hal (by decide)) (fun b hb acc hacc kk hkk => ?_) ?_
    · try walk_at "z"
      rw [Int.zero_add]
      refine ⟨n, b, ⟨rfl, hn, rfl⟩, fun M1 q fg1 h1 hq1 => ?_⟩
      try walk_at "z"
      show seqP _ _ _
      rw [seq_refE (lget_of h1)]
      have hin : ∀ xs : List PV, xs.map (fun p => p) = xs := fun xs => by simp
      rw [← hin (hsteps n b h room am)]
      refine lc_map (fun p : PV => p) (fun p : PV => p) (hsteps n b h room am) acc (by rw [hin]; exact lget_of h1) hacc (fun p hp k2 hk2 => ?_) ?_
      · try walk_at "z"
        exact hk2 _ Fg.refl
      · rw [hin]
        exact hkk _ fg1
    intro q hq1
    rw [List.nil_append]
    have es : ((List.range n).flatMap fun b : Nat => hsteps n b h room am) = allSt n h room am := rfl
    rw [es]
    have fg1 := fg_mu (o := .lst (allSt n h room am)) Fg.refl hq1 nohid_l
    show bltP _ _ (mu M q (.lst (allSt n h room am))) _
    rw [f_lenr lget_mu]
    try walk_at "z"
    by_cases c2 : (150 : Int) < ((allSt n h room am).length : Int)
    · rw [if_pos c2]
      exact ⟨by decide, M, fg1.sg, hE (.inr (by rw [← all_len_eq (room := room) (am := am)]; omega))⟩
    rw [if_neg c2]
    have hq := hq (fun z => z.elim (by omega) (fun z => by rw [← all_len_eq (room := room) (am := am)] at z; omega))
    rw [enum_l lget_mu, enum_pv]
    refine lc_map (fun p : PV × Nat => PV.tup [.int (p.2 : Nat), p.1]) (mvN "f") (allSt n h room am).zipIdx [] lget_mu (by simp; unfold sizeLine; omega) (fun p hp kk hkk => ?_) ?_
    · have hp2 := zip_at hp
      have hp3 := (List.getElem?_eq_some_iff.mp hp2).1
      try walk_at "z"
      rw [strE]
      exact ⟨by decide, num_log (by omega) (by omega), tn_len (by decide) (by omega), by decide, by decide, hkk _ Fg.refl⟩
    intro q2 hq2
    rw [List.nil_append]
    have fg2 := fg_new (o := .lst ((allSt n h room am).zipIdx.map (mvN "f"))) fg1 hq2 nohid_l
    show sp_lots_of _ _ _ _
    refine ⟨n, ⟨rfl, hn⟩, ?_⟩
    try walk_at "z"
    rw [f_tupl lget_mu]
    try walk_at "z"
    refine ⟨by decide, n, ⟨rfl, hn⟩, ?_⟩
    try walk_at "z"
    refine ⟨n, ⟨rfl, hn⟩, ?_⟩
    try walk_at "z"
    exact ⟨by decide, by decide, dropQ_of fg2 hq⟩
  · exact h.elim
def sp_choosing_book : ZSp := fun xs M Q E => match xs with
  | [.int n', .int m, .int h, .int room, .int am] => ∃ n : Nat, (n' = (n : Nat) ∧ n ≤ 20) ∧ (n ≤ 8 → Q (choV n m h room am) M) ∧ (8 < n → E (Str.ofString "BadCall") [(Str.ofString "word", .str (Str.ofString "limit"))] M)
  | _ => False
def secV (n : Nat) (m : Int) : PV := .tup [.str (Str.ofString "outside"), .tup ((lotsN n m).map natP), .tup ((List.range n).map fMv)]
/-! choosing_book : 0 boxes, 1 many, 2 helpers, 3 room, 4 amount, 5 moves, 6 box, 7 standings, 8 steps, 9 picks, 10 number, 11 step -/
def N_choosing_book : List Str := [Str.ofString "boxes", Str.ofString "many", Str.ofString "helpers", Str.ofString "room", Str.ofString "amount", Str.ofString "moves", Str.ofString "box", Str.ofString "standings", Str.ofString "steps", Str.ofString "picks", Str.ofString "number", Str.ofString "step"]
def ps_choosing_book : List Str := [Str.ofString "boxes", Str.ofString "many", Str.ofString "helpers", Str.ofString "room", Str.ofString "amount"]
def b_choosing_book : ZS :=
  (.seq (.ifs (.cmp .Gt (.var 0) (.gl (Str.ofString "BOXES_MOST") k_BOXES_MOST))
    (.seq (.raise (Str.ofString "BadCall") [Str.ofString "word"] (.cons (.str (Str.ofString "limit")) .nil)) <|
    .nil)
    .nil) <|
  (.seq (.asg (.nm 5) (.lc [(Str.ofString "box", 6)] (.nm 6) (.rng1 (.var 0)) .tt (.tup (.cons (.js (.cons (.str (Str.ofString "f")) (.cons (.fmt (.var 6)) .nil))) (.cons (.tup .nil) (.cons (.bin .Add (.int 2) (.var 6)) .nil)))))) <|
  (.seq (.asg (.nm 7) (.lst (.cons (.call (Str.ofString "put_standing") 2 sp_put_standing (.cons (.var 0) (.cons (.var 3) .nil))) (.cons (.tup (.cons (.str (Str.ofString "outside")) (.cons (.call (Str.ofString "lots_of") 2 sp_lots_of (.cons (.var 0) (.cons (.var 1) .nil))) (.cons (.blt .tuple (.cons (.var 5) .nil)) .nil)))) .nil)))) <|
  (.seq (.fors (.nm 6) (.rng1 (.var 0))
    (.seq (.asg (.nm 8) (.call (Str.ofString "helper_steps") 5 sp_helper_steps (.cons (.var 0) (.cons (.var 6) (.cons (.var 2) (.cons (.var 3) (.cons (.var 4) .nil))))))) <|
    (.seq (.asg (.nm 9) (.lc [(Str.ofString "number", 10), (Str.ofString "step", 11)] (.tup 2 (.cons (.nm 10) (.cons (.nm 11) .nil))) (.enum (.var 8)) .tt (.tup (.cons (.js (.cons (.str (Str.ofString "h")) (.cons (.fmt (.var 10)) .nil))) (.cons (.tup (.cons (.var 11) .nil)) (.cons (.int 1) .nil)))))) <|
    (.seq (.expr (.mth .append (.var 7) (.cons (.tup (.cons (.str (Str.ofString "house")) (.cons (.tup .nil) (.cons (.blt .tuple (.cons (.var 9) .nil)) .nil)))) .nil))) <|
    .nil)))) <|
  (.seq (.ret (.tup (.cons (.call (Str.ofString "box_names") 1 sp_box_names (.cons (.var 0) .nil)) (.cons (.blt .tuple (.cons (.var 7) .nil)) .nil)))) <|
  .nil)))))
theorem m_choosing_book : Meets 12 5 (wpS b_choosing_book) sp_choosing_book := by
  intro xs M Q E h
  unfold sp_choosing_book at h
  split at h
  · rename_i n' m h room am
    obtain ⟨n, ⟨rfl, hn⟩, hq, hE⟩ := h
    refine ⟨rfl, ?_⟩
    show wpS b_choosing_book _ _ [some (.int n), some (.int m), some (.int h), some (.int room), some (.int am), none, none, none, none, none, none, none] M
    unfold b_choosing_book
    try walk_at "z"
    by_cases c : (8 : Int) < (n : Int)
    · rw [if_pos c]
      exact ⟨by decide, M, Fg.refl.sg, hE (by omega)⟩
    rw [if_neg c]
    have hn : n ≤ 8 := by omega
    have hq := hq hn
    refine ⟨⟨by omega, by omega⟩, ?_⟩
    rw [Int.toNat_natCast]
    refine lc_map (fun b : Nat => PV.int (0 + (b : Int))) fMv (List.range n) [] trivial (by simp; unfold sizeLine; omega) (fun b hb kk hkk => ?_) ?_
    · have hb := List.mem_range.mp hb
      try walk_at "z"
      rw [Int.zero_add, strE]
      exact ⟨by decide, num_log (by omega) (by omega), tn_len (by decide) (by omega), by decide, by decide, hkk _ Fg.refl⟩
    intro q hq1
    rw [List.nil_append]
    have fg1 := fg_mu (o := .lst ((List.range n).map fMv)) Fg.refl hq1 nohid_l
    have h1 : mu M q (.lst ((List.range n).map fMv)) q = some (.lst ((List.range n).map fMv)) := mu_same
    show sp_put_standing _ (mu M q (.lst ((List.range n).map fMv))) _ _
    generalize mu M q (.lst ((List.range n).map fMv)) = M1 at fg1 h1
    refine ⟨n, ⟨rfl, hn⟩, ?_⟩
    try walk_at "z"
    refine ⟨n, ⟨rfl, hn⟩, ?_⟩
    try walk_at "z"
    rw [f_tupl (lget_of h1)]
    try walk_at "z"
    refine ⟨by decide, Nat.le_of_ble_eq_true rfl, fun a ha => ?_⟩
    have haM := fg_none fg1 ha
    try walk_at "z"
    refine ⟨⟨by omega, by omega⟩, ?_⟩
    try rw [Int.toNat_natCast]
    refine for_rng (fun i τ N => ∃ u6 u8 u9 : Option PV, τ = [some (.int n), some (.int m), some (.int h), some (.int room), some (.int am), some (.ref q), u6, some (.ref a), u8, u9, none, none] ∧ Fg M N ∧ N a = some (.lst ([putV n room, secV n m] ++ (List.range i).map (hSt n h room am)))) _ 0 (fun _ => trivial) ?_ ?_ _ _ ⟨_, _, _, rfl, fg_new fg1 ha nohid_l, mu_same⟩
    · rintro τ N ⟨u6, u8, u9, rfl, fg, hN⟩
      try walk_at "z"
      refine ⟨n, ⟨rfl, hn⟩, ?_⟩
      try walk_at "z"
      rw [f_tupl (lget_of hN)]
      try walk_at "z"
      exact ⟨by decide, dropQ_of fg hq⟩
    · rintro i τ N k hi ⟨u6, u8, u9, rfl, fg, hN⟩ hk
      have hsl := hst_len (n := n) (b := i) (h := h) (room := room) (am := am) hn
      try walk_at "z"
      rw [Int.zero_add]
      refine ⟨n, i, ⟨rfl, hn, rfl⟩, fun N1 q2 fg2 h2 hq2 => ?_⟩
      try walk_at "z"
      rw [enum_l (lget_of h2), enum_pv]
      refine lc_map (fun p : PV × Nat => PV.tup [.int (p.2 : Nat), p.1]) (mvN "h") (hsteps n i h room am).zipIdx [] (lget_of h2) (by simp; unfold sizeLine; omega) (fun p hp kk hkk => ?_) ?_
      · have hp2 := zip_at hp
        have hp3 := (List.getElem?_eq_some_iff.mp hp2).1
        try walk_at "z"
        rw [strE]
        exact ⟨by decide, num_log (by omega) (by omega), tn_len (by decide) (by omega), by decide, by decide, hkk _ Fg.refl⟩
      intro q3 hq3
      rw [List.nil_append]
      have h3 := at_new hq3 (fg2.1 _ _ hN) (o' := .lst ((hsteps n i h room am).zipIdx.map (mvN "h")))
      have fg3 := fg_new (o := .lst ((hsteps n i h room am).zipIdx.map (mvN "h"))) (fg.trans fg2) hq3 nohid_l
      have hm3 : mthO .append (.ref a) (mu N1 q3 (.lst ((hsteps n i h room am).zipIdx.map (mvN "h")))) := by rw [m_lst (.inl rfl) (lget_of h3)]; trivial
      refine ⟨hm3, ?_⟩
      try walk_at "z"
      refine ⟨by decide, ?_⟩
      rw [f_tupl lget_mu]
      try walk_at "z"
      refine ⟨by decide, ?_⟩
      rw [m_app h3]
      refine ⟨by rw [List.length_append, List.length_map, List.length_range]; show 2 + i < _; unfold sizeLine; omega, ?_⟩
      refine k_of hk ⟨_, _, _, rfl, fg_mu fg3 haM nohid_l, ?_⟩
      rw [mu_same, List.range_succ, List.map_append, List.append_assoc]
      rfl
  · exact h.elim
/-! ### the law's books -/
theorem cn_eq {l n : Nat} (hl : l < 2 ^ n) (hn : n ≤ 10) : cn l = (ons l n).length := by
  unfold cn ons
  rw [filt_eq (a := 10) (b := n) (fun s h => bits_of_lt hl (by omega)) (fun s h => bits_of_lt hl h)]
theorem sum_bits (k : Nat) : ∀ l : List Nat, (l.map fun b => if k.testBit b = true then (1 : Int) else 0).sum = ((l.filter k.testBit).length : Int)
  | [] => rfl
  | x :: l => by
    rw [List.map_cons, List.sum_cons, sum_bits k l]
    by_cases h : k.testBit x = true
    · rw [if_pos h, List.filter_cons_of_pos h, List.length_cons]; omega
    · rw [if_neg h, List.filter_cons_of_neg h]; omega
def lotsL (n : Nat) (m w : Int) (i : Nat) : List Nat := (List.range i).filter fun l => decide ((cn l : Int) = m ∧ (w < 0 ∨ ¬ l.testBit w.toNat = true))
theorem lotsL_neg {n : Nat} {m : Int} : lotsL n m (-1) (2 ^ n) = lotsN n m := by
  unfold lotsL lotsN
  refine List.filter_congr fun l _ => ?_
  simp
theorem lotsL_box {n b : Nat} {m : Int} : lotsL n m (b : Int) (2 ^ n) = lotsB n m b := by
  unfold lotsL lotsB lotsN
  rw [List.filter_filter]
  refine List.filter_congr fun l _ => ?_
  rw [Int.toNat_natCast]
  have : ¬ ((b : Int) < 0) := by omega
  by_cases c : l.testBit b = true <;> by_cases c2 : (cn l : Int) = m <;> simp [c, c2, this]
theorem lotsL_succ {n i : Nat} {m w : Int} : lotsL n m w (i + 1) = lotsL n m w i ++ if (cn i : Int) = m ∧ (w < 0 ∨ ¬ i.testBit w.toNat = true) then [i] else [] := by
  unfold lotsL
  rw [List.range_succ, List.filter_append]
  by_cases c : (cn i : Int) = m ∧ (w < 0 ∨ ¬ i.testBit w.toNat = true)
  · rw [if_pos c]
    congr 1
    exact List.filter_cons_of_pos (p := fun l : Nat => decide ((cn l : Int) = m ∧ (w < 0 ∨ ¬ l.testBit w.toNat = true))) (decide_eq_true c)
  · rw [if_neg c]
    congr 1
    exact List.filter_cons_of_neg (p := fun l : Nat => decide ((cn l : Int) = m ∧ (w < 0 ∨ ¬ l.testBit w.toNat = true))) (by simpa using c)
theorem lotsL_len {n i : Nat} {m w : Int} : (lotsL n m w i).length ≤ i := by
  have := List.length_filter_le (fun l => decide ((cn l : Int) = m ∧ (w < 0 ∨ ¬ l.testBit w.toNat = true))) (List.range i)
  rw [List.length_range] at this
  exact this
def sp_law_lots : ZSp := fun xs M Q E => match xs with
  | [.int b, .int m, .int w] => ∃ n : Nat, (b = (n : Nat) ∧ n ≤ 8) ∧ ∀ (M' : Mp) (a : Addr), Fg M M' → M' a = some (.lst ((lotsL n m w (2 ^ n)).map natP)) → M a = none → Q (.ref a) M'
  | _ => False
/-! _law_lots : 0 boxes, 1 many, 2 without, 3 lots, 4 lot, 5 box -/
def N_law_lots : List Str := [Str.ofString "boxes", Str.ofString "many", Str.ofString "without", Str.ofString "lots", Str.ofString "lot", Str.ofString "box"]
def ps_law_lots : List Str := [Str.ofString "boxes", Str.ofString "many", Str.ofString "without"]
def b_law_lots : ZS :=
  (.seq (.asg (.nm 3) (.lst .nil)) <|
  (.seq (.fors (.nm 4) (.rng1 (.bin .LShift (.int 1) (.var 0)))
    (.seq (.ifs (.and (.cons (.cmp .Eq (.blt .sum (.cons (.lc [(Str.ofString "box", 5)] (.nm 5) (.rng1 (.var 0)) .tt (.bin .BitAnd (.bin .RShift (.var 4) (.var 5)) (.int 1))) .nil)) (.var 1)) (.one (.or (.cons (.cmp .Lt (.var 2) (.int 0)) (.one (.cmp .Eq (.bin .BitAnd (.bin .RShift (.var 4) (.var 2)) (.int 1)) (.int 0))))))))
      (.seq (.expr (.mth .append (.var 3) (.cons (.var 4) .nil))) <|
      .nil)
      .nil) <|
    .nil)) <|
  (.seq (.ret (.var 3)) <|
  .nil)))
theorem m_law_lots : Meets 6 3 (wpS b_law_lots) sp_law_lots := by
  intro xs M Q E h
  unfold sp_law_lots at h
  split at h
  · rename_i b m w
    obtain ⟨n, ⟨rfl, hn⟩, hq⟩ := h
    refine ⟨rfl, ?_⟩
    show wpS b_law_lots _ _ [some (.int n), some (.int m), some (.int w), none, none, none] M
    unfold b_law_lots
    have h2 := pw8 hn
    have hp0 := Nat.two_pow_pos n
    try walk_at "z"
    refine ⟨Nat.zero_le _, fun a ha => ?_⟩
    try walk_at "z"
    rw [pow_shl]
    refine ⟨cpow1 _ (by omega), ⟨by omega, by omega⟩, ?_⟩
    try rw [Int.toNat_natCast]
    refine for_rng (fun i τ N => ∃ u4 : Option PV, τ = [some (.int n), some (.int m), some (.int w), some (.ref a), u4, none] ∧ Fg M N ∧ N a = some (.lst ((lotsL n m w i).map natP))) _ 0 (fun _ => trivial) ?_ ?_ _ _ ⟨none, rfl, fg_mu Fg.refl ha nohid_l, mu_same⟩
    · rintro τ N ⟨u4, rfl, fg, hN⟩
      try walk_at "z"
      exact dropQ_id (hq _ a fg hN ha)
    · rintro i τ N k hi ⟨u4, rfl, fg, hN⟩ hk
      have hll := lotsL_len (n := n) (m := m) (w := w) (i := i)
      try walk_at "z"
      rw [Int.zero_add]
      refine ⟨⟨by omega, by omega⟩, ?_⟩
      try rw [Int.toNat_natCast]
      refine lc_map (fun b : Nat => PV.int (0 + (b : Int))) (fun b : Nat => PV.int (if i.testBit b = true then 1 else 0)) (List.range n) [] trivial (by simp; unfold sizeLine; omega) (fun b hb kk hkk => ?_) ?_
      · try walk_at "z"
        rw [Int.zero_add, Int.toNat_natCast, bit_int]
        exact ⟨by omega, hkk _ Fg.refl⟩
      intro q hq1
      rw [List.nil_append]
      have e : (List.range n).map (fun b : Nat => PV.int (if i.testBit b = true then 1 else 0)) = ((List.range n).map fun b => if i.testBit b = true then (1 : Int) else 0).map PV.int := by rw [List.map_map]; rfl
      rw [e]
      have h1 := at_new hq1 hN (o' := .lst (((List.range n).map fun b => if i.testBit b = true then (1 : Int) else 0).map PV.int))
      have fg1 := fg_new (o := .lst (((List.range n).map fun b => if i.testBit b = true then (1 : Int) else 0).map PV.int)) fg hq1 nohid_l
      show bltP _ _ (mu N q (.lst (((List.range n).map fun b => if i.testBit b = true then (1 : Int) else 0).map PV.int))) _
      rw [f_suml lget_mu, sum_bits]
      have ec : (((List.range n).filter i.testBit).length : Int) = (cn i : Int) := by rw [cn_eq hi (by omega)]; rfl
      rw [ec]
      generalize mu N q (.lst (((List.range n).map fun b => if i.testBit b = true then (1 : Int) else 0).map PV.int)) = N1 at h1 fg1
      have lm : mthO .append (.ref a) N1 := by rw [m_lst (.inl rfl) (lget_of h1)]; trivial
      have yes : (cn i : Int) = m ∧ (w < 0 ∨ ¬ i.testBit w.toNat = true) → mthP .append (.ref a) [.int (i : Nat)] N1 fun _ M1 => k [some (.int n), some (.int m), some (.int w), some (.ref a), some (.int (i : Nat)), none] M1 := fun c => by
        rw [m_app h1]
        refine ⟨by rw [List.length_map]; unfold sizeLine; omega, ?_⟩
        refine k_of hk ⟨_, rfl, fg_mu fg1 ha nohid_l, ?_⟩
        rw [mu_same, lotsL_succ, if_pos c, List.map_append]; rfl
      have no : ¬ ((cn i : Int) = m ∧ (w < 0 ∨ ¬ i.testBit w.toNat = true)) → k [some (.int n), some (.int m), some (.int w), some (.ref a), some (.int (i : Nat)), none] N1 := fun c => by
        refine k_of hk ⟨_, rfl, fg1, ?_⟩
        rw [lotsL_succ, if_neg c, List.append_nil]; exact h1
      try walk_at "z"
      by_cases c : (cn i : Int) = m
      · rw [if_pos c]
        by_cases c2 : w < 0
        · rw [if_pos c2]
          exact ⟨lm, yes ⟨c, .inl c2⟩⟩
        · rw [if_neg c2]
          refine ⟨by omega, ?_⟩
          rw [bit_int]
          by_cases c3 : i.testBit w.toNat = true
          · rw [if_pos c3, if_neg (by decide)]
            exact no fun z => z.2.elim c2 fun z => z c3
          · rw [if_neg c3, if_pos rfl]
            exact ⟨lm, yes ⟨c, .inr c3⟩⟩
      · rw [if_neg c]
        exact no fun z => c z.1
  · exact h.elim
def sp_law_steps : ZSp := fun xs M Q E => match xs with
  | [.int n', .int h, .int room, .int am, .int b'] => ∃ n b : Nat, (n' = (n : Nat) ∧ n ≤ 8 ∧ b' = (b : Nat)) ∧ ∀ (M' : Mp) (a : Addr), Fg M M' → M' a = some (.lst (hsteps n b h room am)) → M a = none → Q (.ref a) M'
  | _ => False
/-! _law_steps : 0 boxes, 1 helpers, 2 room, 3 amount, 4 box, 5 steps, 6 lot, 7 feeds, 8 other -/
def N_law_steps : List Str := [Str.ofString "boxes", Str.ofString "helpers", Str.ofString "room", Str.ofString "amount", Str.ofString "box", Str.ofString "steps", Str.ofString "lot", Str.ofString "feeds", Str.ofString "other"]
def ps_law_steps : List Str := [Str.ofString "boxes", Str.ofString "helpers", Str.ofString "room", Str.ofString "amount", Str.ofString "box"]
def b_law_steps : ZS :=
  (.seq (.asg (.nm 5) (.lst .nil)) <|
  (.seq (.fors (.nm 6) (.seq (.call (Str.ofString "_law_lots") 3 sp_law_lots (.cons (.var 0) (.cons (.var 1) (.cons (.var 4) .nil)))))
    (.seq (.asg (.nm 7) (.lc [(Str.ofString "other", 8)] (.nm 8) (.rng1 (.var 0)) (.cmp .Eq (.bin .BitAnd (.bin .RShift (.var 6) (.var 8)) (.int 1)) (.int 1)) (.tup (.cons (.var 8) (.cons (.var 3) .nil))))) <|
    (.seq (.expr (.mth .append (.var 5) (.cons (.tup (.cons (.var 4) (.cons (.var 2) (.cons (.blt .tuple (.cons (.var 7) .nil)) .nil)))) .nil))) <|
    .nil))) <|
  (.seq (.ret (.var 5)) <|
  .nil)))
theorem m_law_steps : Meets 9 5 (wpS b_law_steps) sp_law_steps := by
  intro xs M Q E h
  unfold sp_law_steps at h
  split at h
  · rename_i n' h room am b'
    obtain ⟨n, b, ⟨rfl, hn, rfl⟩, hq⟩ := h
    refine ⟨rfl, ?_⟩
    show wpS b_law_steps _ _ [some (.int n), some (.int h), some (.int room), some (.int am), some (.int b), none, none, none, none] M
    unfold b_law_steps
    have hlb := lotsB_len (h := h) (b := b) hn
    try walk_at "z"
    refine ⟨Nat.zero_le _, fun a ha => ?_⟩
    try walk_at "z"
    refine ⟨n, ⟨rfl, hn⟩, fun M1 q fg1 h1 hq1 => ?_⟩
    rw [lotsL_box] at h1
    try walk_at "z"
    show seqP _ _ _
    rw [seq_refE (lget_of h1)]
    have naq : q ≠ a := fun z => by subst z; rw [mu_same] at hq1; cases hq1
    refine for_map natP (lotsB n h b) (fun pre τ N => ∃ u6 u7 : Option PV, τ = [some (.int n), some (.int h), some (.int room), some (.int am), some (.int b), some (.ref a), u6, u7, none] ∧ Fg M N ∧ N q = some (.lst ((lotsB n h b).map natP)) ∧ N a = some (.lst (pre.map (mstp n b room am)))) (fun _ _ _ _ _ h => ?_) ?_ ?_ _ _ ⟨none, none, rfl, (fg_mu Fg.refl ha nohid_l).trans fg1, h1, fg1.1 _ _ mu_same⟩
    · obtain ⟨_, _, _, _, h, _⟩ := h; exact lget_of h
    · rintro τ N ⟨u6, u7, rfl, fg, g0, ga⟩
      try walk_at "z"
      exact dropQ_id (hq _ a fg ga ha)
    · rintro pre l post τ N k ep ⟨u6, u7, rfl, fg, g0, ga⟩ hk
      have hl := mid_mem ep
      have hpl := mid_len ep
      try walk_at "z"
      refine ⟨⟨by omega, by omega⟩, ?_⟩
      try rw [Int.toNat_natCast]
      refine lc_fm (fun b : Nat => PV.int (0 + (b : Int))) (fun o : Nat => if l.testBit o = true then some (.tup [natP o, .int am]) else none) (List.range n) [] trivial (by simp; unfold sizeLine; omega) (fun o ho k2 hk2 => ?_) ?_
      · try walk_at "z"
        rw [Int.zero_add, Int.toNat_natCast, bit_int]
        refine ⟨by omega, ?_⟩
        by_cases c3 : l.testBit o = true
        · rw [if_pos c3, if_pos rfl]
          rw [if_pos c3] at hk2
          exact ⟨by decide, hk2 _ Fg.refl⟩
        · rw [if_neg c3, if_neg (by decide)]
          rw [if_neg c3] at hk2
          exact hk2 _ Fg.refl
      intro q2 hq2
      rw [List.nil_append, fil_f (fun o => PV.tup [natP o, .int am]) (fun o => l.testBit o = true)]
      have eon : (List.range n).filter (fun h => decide (l.testBit h = true)) = ons l n := by
        unfold ons
        refine List.filter_congr fun b _ => ?_
        cases l.testBit b <;> rfl
      rw [eon]
      have ga2 := at_new hq2 ga (o' := .lst ((ons l n).map fun o => PV.tup [natP o, .int am]))
      have g02 := at_new hq2 g0 (o' := .lst ((ons l n).map fun o => PV.tup [natP o, .int am]))
      have fg2 := fg_new (o := .lst ((ons l n).map fun o => PV.tup [natP o, .int am])) fg hq2 nohid_l
      have lm : mthO .append (.ref a) (mu N q2 (.lst ((ons l n).map fun o => PV.tup [natP o, .int am]))) := by rw [m_lst (.inl rfl) (lget_of ga2)]; trivial
      refine ⟨lm, ?_⟩
      show bltP _ _ _ _
      rw [f_tupl lget_mu]
      try walk_at "z"
      refine ⟨by decide, ?_⟩
      rw [m_app ga2]
      refine ⟨by rw [List.length_map]; unfold sizeLine; omega, ?_⟩
      refine k_of hk ⟨_, _, rfl, fg_mu fg2 ha nohid_l, by rw [mu_ne naq]; exact g02, ?_⟩
      rw [mu_same, List.map_append]
      rfl
  · exact h.elim
theorem asg_cut {i : Nat} {e : ZE} {v : PV} {r : ZS} {J : ZJ} {nx : Tau → Mp → Prop} {τ : Tau} {M : Mp} (he : ∀ Q : ZQ, Q v M → wpE e (J.ex τ) τ M Q) (h : wpS r J nx (τ.set i (some v)) M) : wpS (.seq (.asg (.nm i) e) r) J nx τ M := by
  rw [s_seq, s_asg]
  exact he _ h
theorem asg_any {i : Nat} {e : ZE} {r : ZS} {J : ZJ} {nx : Tau → Mp → Prop} {τ : Tau} {M : Mp} {Post : PV → Mp → Prop} (he : ∀ Q : ZQ, (∀ v M', Post v M' → Q v M') → wpE e (J.ex τ) τ M Q) (h : ∀ v M', Post v M' → wpS r J nx (τ.set i (some v)) M') : wpS (.seq (.asg (.nm i) e) r) J nx τ M := by
  rw [s_seq, s_asg]
  exact he _ h
theorem expr_any {e : ZE} {r : ZS} {J : ZJ} {nx : Tau → Mp → Prop} {τ : Tau} {M : Mp} {Post : Mp → Prop} (he : ∀ Q : ZQ, (∀ v M', Post M' → Q v M') → wpE e (J.ex τ) τ M Q) (h : ∀ M', Post M' → wpS r J nx τ M') : wpS (.seq (.expr e) r) J nx τ M := by
  rw [s_seq, s_expr]
  exact he _ fun v M' hp => h M' hp
theorem ifs_no {t : ZT} {s r : ZS} {J : ZJ} {nx : Tau → Mp → Prop} {τ : Tau} {M : Mp} (ht : ∀ Q : Bool → Mp → Prop, Q false M → wpT t (J.ex τ) τ M Q) (h : wpS r J nx τ M) : wpS (.seq (.ifs t s .nil) r) J nx τ M := by
  rw [s_seq, s_ifs]
  refine ht _ ?_
  rw [if_neg (by decide), s_nil]
  exact h
theorem seq_post {s r : ZS} {J : ZJ} {nx : Tau → Mp → Prop} {τ : Tau} {M : Mp} {Post : Tau → Mp → Prop} (hs : ∀ nx', (∀ τ' M', Post τ' M' → nx' τ' M') → wpS s J nx' τ M) (h : ∀ τ' M', Post τ' M' → wpS r J nx τ' M') : wpS (.seq s r) J nx τ M := by
  rw [s_seq]
  exact hs _ h
def mvA (ch : Bool) (n : Nat) (h room am : Int) (i : Nat) : List PV := if ch then (List.range i).map fMv else ((List.range i).flatMap fun b : Nat => hsteps n b h room am).zipIdx.map (mvN "f")
def hoA (ch : Bool) (n : Nat) (h room am : Int) (i : Nat) : List PV := if ch then (List.range i).map (hSt n h room am) else []
def madeV (ch : Bool) (n : Nat) (m h room am : Int) : PV := if ch then choV n m h room am else symV n m h room am
theorem zip_snoc {α : Type} (ss : List α) (s : α) : (ss ++ [s]).zipIdx = ss.zipIdx ++ [(s, ss.length)] := by
  rw [List.zipIdx_append]
  simp
theorem made_eq {ch : Bool} {n : Nat} {m h room am : Int} : PV.tup [.tup (namesV n), .tup ([putV n room, .tup [.str (Str.ofString "outside"), .tup ((lotsN n m).map natP), .tup (mvA ch n h room am n)]] ++ hoA ch n h room am n)] = madeV ch n m h room am := by
  cases ch
  · show PV.tup [.tup (namesV n), .tup ([putV n room, .tup [.str (Str.ofString "outside"), .tup ((lotsN n m).map natP), .tup ((allSt n h room am).zipIdx.map (mvN "f"))]] ++ [])] = _
    rw [List.append_nil]; rfl
  · rfl
theorem fl_len {n i : Nat} {h room am : Int} (hn : n ≤ 8) : ((List.range i).flatMap fun b : Nat => hsteps n b h room am).length ≤ i * 256 := by
  have := fm_len (f := fun b => hsteps n b h room am) (c := 256) (l := List.range i) fun _ _ => hst_len hn
  rw [List.length_range] at this
  exact this
def sp_law_made : ZSp := fun xs M Q E => match xs with
  | [.int n', .int m, .int h, .int room, .int am, .bl ch] => ∃ n : Nat, (n' = (n : Nat) ∧ n ≤ 8) ∧ Q (madeV ch n m h room am) M
  | _ => False
/-! _law_made : 0 boxes, 1 many, 2 helpers, 3 room, 4 amount, 5 chosen, 6 names, 7 box, 8 put, 9 moves, 10 houses, 11 steps, 12 picks, 13 number, 14 step, 15 demands -/
def N_law_made : List Str := [Str.ofString "boxes", Str.ofString "many", Str.ofString "helpers", Str.ofString "room", Str.ofString "amount", Str.ofString "chosen", Str.ofString "names", Str.ofString "box", Str.ofString "put", Str.ofString "moves", Str.ofString "houses", Str.ofString "steps", Str.ofString "picks", Str.ofString "number", Str.ofString "step", Str.ofString "demands"]
def ps_law_made : List Str := [Str.ofString "boxes", Str.ofString "many", Str.ofString "helpers", Str.ofString "room", Str.ofString "amount", Str.ofString "chosen"]
def b_law_made : ZS :=
  (.seq (.asg (.nm 6) (.blt .tuple (.cons (.lc [(Str.ofString "box", 7)] (.nm 7) (.rng1 (.var 0)) .tt (.bin .Add (.str (Str.ofString "b")) (.blt .str (.cons (.var 7) .nil)))) .nil))) <|
  (.seq (.asg (.nm 8) (.tup (.cons (.str (Str.ofString "put")) (.cons (.blt .tuple (.cons (.lc [(Str.ofString "box", 7)] (.nm 7) (.rng1 (.var 0)) .tt (.tup (.cons (.var 7) (.cons (.var 3) (.cons (.tup (.cons (.tup (.cons (.un .USub (.int 1)) (.cons (.var 3) .nil))) .nil)) .nil))))) .nil)) (.cons (.int 1) .nil))))) <|
  (.seq (.asg (.nm 9) (.lst .nil)) <|
  (.seq (.asg (.nm 10) (.lst .nil)) <|
  (.seq (.fors (.nm 7) (.rng1 (.var 0))
    (.seq (.asg (.nm 11) (.call (Str.ofString "_law_steps") 5 sp_law_steps (.cons (.var 0) (.cons (.var 2) (.cons (.var 3) (.cons (.var 4) (.cons (.var 7) .nil))))))) <|
    (.seq (.ifs (.tv (.var 5))
      (.seq (.expr (.mth .append (.var 9) (.cons (.tup (.cons (.bin .Add (.str (Str.ofString "f")) (.blt .str (.cons (.var 7) .nil))) (.cons (.tup .nil) (.cons (.bin .Add (.int 2) (.var 7)) .nil)))) .nil))) <|
      (.seq (.asg (.nm 12) (.lc [(Str.ofString "number", 13), (Str.ofString "step", 14)] (.tup 2 (.cons (.nm 13) (.cons (.nm 14) .nil))) (.enum (.var 11)) .tt (.tup (.cons (.bin .Add (.str (Str.ofString "h")) (.blt .str (.cons (.var 13) .nil))) (.cons (.tup (.cons (.var 14) .nil)) (.cons (.int 1) .nil)))))) <|
      (.seq (.expr (.mth .append (.var 10) (.cons (.tup (.cons (.str (Str.ofString "house")) (.cons (.tup .nil) (.cons (.blt .tuple (.cons (.var 12) .nil)) .nil)))) .nil))) <|
      .nil)))
      (.seq (.fors (.nm 14) (.seq (.var 11))
        (.seq (.expr (.mth .append (.var 9) (.cons (.tup (.cons (.bin .Add (.str (Str.ofString "f")) (.blt .str (.cons (.blt .len (.cons (.var 9) .nil)) .nil))) (.cons (.tup (.cons (.var 14) .nil)) (.cons (.int 1) .nil)))) .nil))) <|
        .nil)) <|
      .nil)) <|
    .nil))) <|
  (.seq (.asg (.nm 15) (.blt .tuple (.cons (.call (Str.ofString "_law_lots") 3 sp_law_lots (.cons (.var 0) (.cons (.var 1) (.cons (.un .USub (.int 1)) .nil)))) .nil))) <|
  (.seq (.ret (.tup (.cons (.var 6) (.cons (.bin .Add (.tup (.cons (.tup (.cons (.str (Str.ofString "outside")) (.cons (.tup .nil) (.cons (.tup (.cons (.var 8) .nil)) .nil)))) (.cons (.tup (.cons (.str (Str.ofString "outside")) (.cons (.var 15) (.cons (.blt .tuple (.cons (.var 9) .nil)) .nil)))) .nil))) (.blt .tuple (.cons (.var 10) .nil))) .nil)))) <|
  .nil)))))))
theorem m_law_made : Meets 16 6 (wpS b_law_made) sp_law_made := by
  intro xs M Q E h
  unfold sp_law_made at h
  split at h
  · rename_i n' m h room am ch
    obtain ⟨n, ⟨rfl, hn⟩, hq⟩ := h
    refine ⟨rfl, ?_⟩
    show wpS b_law_made _ _ [some (.int n), some (.int m), some (.int h), some (.int room), some (.int am), some (.bl ch), none, none, none, none, none, none, none, none, none, none] M
    unfold b_law_made
    refine asg_any (Post := fun v M' => v = .tup (namesV n) ∧ Fg M M') (fun Q hQ => ?_) ?_
    · try walk_at "z"
      refine ⟨⟨by omega, by omega⟩, ?_⟩
      try rw [Int.toNat_natCast]
      refine lc_map (fun b : Nat => PV.int (0 + (b : Int))) (fun b : Nat => PV.str (tN "b" b)) (List.range n) [] trivial (by simp; unfold sizeLine; omega) (fun b hb kk hkk => ?_) ?_
      · have hb := List.mem_range.mp hb
        try walk_at "z"
        rw [Int.zero_add]
        have hl : (Str.ofString "b" ++ (Str.ofString (toString (b : Int)))).length ≤ sizeLine := tn_len (c := "b") (b := b) (by decide) (by omega)
        rw [str_len] at hl
        exact ⟨num_log (by omega) (by omega), hl, hkk _ Fg.refl⟩
      intro q hq1
      rw [List.nil_append]
      show bltP _ _ _ _
      rw [f_tupl lget_mu]
      exact hQ _ _ ⟨rfl, fg_mu Fg.refl hq1 nohid_l⟩
    rintro _ M1 ⟨rfl, fg1⟩
    refine asg_any (Post := fun v M' => v = .tup [.str (Str.ofString "put"), .tup ((List.range n).map fun b => .tup [natP b, .int room, .tup [.tup [.int (-1), .int room]]]), .int 1] ∧ Fg M M') (fun Q hQ => ?_) ?_
    · try walk_at "z"
      refine ⟨⟨by omega, by omega⟩, ?_⟩
      try rw [Int.toNat_natCast]
      refine lc_map (fun b : Nat => PV.int (0 + (b : Int))) (fun b : Nat => .tup [natP b, .int room, .tup [.tup [.int (-1), .int room]]]) (List.range n) [] trivial (by simp; unfold sizeLine; omega) (fun b hb kk hkk => ?_) ?_
      · try walk_at "z"
        rw [Int.zero_add]
        exact ⟨by decide, by decide, by decide, hkk _ Fg.refl⟩
      intro q hq1
      rw [List.nil_append]
      show bltP _ _ _ _
      rw [f_tupl lget_mu]
      try walk_at "z"
      exact ⟨by decide, hQ _ _ ⟨rfl, fg_new fg1 hq1 nohid_l⟩⟩
    rintro _ M2 ⟨rfl, fg2⟩
    try walk_at "z"
    refine ⟨Nat.zero_le _, fun a ha => ?_⟩
    try walk_at "z"
    refine ⟨Nat.zero_le _, fun c hc => ?_⟩
    obtain ⟨nca, hc2⟩ := new_none hc
    have haM := fg_none fg2 ha
    have hcM := fg_none fg2 hc2
    try walk_at "z"
    refine ⟨⟨by omega, by omega⟩, ?_⟩
    try rw [Int.toNat_natCast]
    refine for_rng (fun i τ N => ∃ u7 u11 u12 u14 : Option PV, τ = [some (.int n), some (.int m), some (.int h), some (.int room), some (.int am), some (.bl ch), some (.tup (namesV n)), u7, some (.tup [.str (Str.ofString "put"), .tup ((List.range n).map fun b => .tup [natP b, .int room, .tup [.tup [.int (-1), .int room]]]), .int 1]), some (.ref a), some (.ref c), u11, u12, none, u14, none] ∧ Fg M N ∧ N a = some (.lst (mvA ch n h room am i)) ∧ N c = some (.lst (hoA ch n h room am i))) _ 0 (fun _ => trivial) ?_ ?_ _ _ ⟨_, none, none, none, rfl, fg_new (fg_new fg2 ha nohid_l) hc nohid_l, ?_, ?_⟩
    · rintro τ N ⟨u7, u11, u12, u14, rfl, fg, gA, gC⟩
      try walk_at "z"
      refine ⟨n, ⟨rfl, hn⟩, fun N1 q fgq hq1 _ => ?_⟩
      rw [lotsL_neg] at hq1
      try walk_at "z"
      show bltP _ _ _ _
      rw [f_tupl (lget_of hq1)]
      try walk_at "z"
      rw [f_tupl (lget_of (fgq.1 _ _ gA))]
      try walk_at "z"
      rw [f_tupl (lget_of (fgq.1 _ _ gC))]
      have hhl : (hoA ch n h room am n).length ≤ n := by
        unfold hoA
        cases ch <;> simp
      try walk_at "z"
      refine ⟨by decide, by decide, by decide, by decide, by decide, ?_, by decide, ?_⟩
      · show 2 + _ ≤ _; unfold sizeLine; omega
      · refine dropQ_of (fg.trans fgq) ?_
        rw [← made_eq] at hq
        exact hq
    · rintro i τ N k hi ⟨u7, u11, u12, u14, rfl, fg, gA, gC⟩ hk
      have hsl := hst_len (n := n) (b := i) (h := h) (room := room) (am := am) hn
      have hfl := fl_len (n := n) (i := i) (h := h) (room := room) (am := am) hn
      try walk_at "z"
      rw [Int.zero_add]
      refine ⟨n, i, ⟨rfl, hn, rfl⟩, fun N1 q fgq hq1 hqN => ?_⟩
      have gA1 := fgq.1 _ _ gA
      have gC1 := fgq.1 _ _ gC
      have fg1 := fg.trans fgq
      have nqa : q ≠ a := fun z => by subst z; rw [gA] at hqN; cases hqN
      have nqc : q ≠ c := fun z => by subst z; rw [gC] at hqN; cases hqN
      cases ch with
      | true =>
        try walk_at "z"
        have hl : (Str.ofString "f" ++ (Str.ofString (toString (i : Int)))).length ≤ sizeLine := tn_len (c := "f") (b := i) (by decide) (by omega)
        rw [str_len] at hl
        refine ⟨by rw [m_lst (.inl rfl) (lget_of gA1)]; trivial, num_log (by omega) (by omega), hl, by decide, by decide, ?_⟩
        have gA1' : N1 a = some (.lst ((List.range i).map fMv)) := gA1
        rw [m_app gA1']
        refine ⟨by rw [List.length_map, List.length_range]; unfold sizeLine; omega, ?_⟩
        have g2q : mu N1 a (.lst ((List.range i).map fMv ++ [fMv i])) q = some (.lst (hsteps n i h room am)) := (mu_ne nqa).trans hq1
        have g2c : mu N1 a (.lst ((List.range i).map fMv ++ [fMv i])) c = some (.lst ((List.range i).map (hSt n h room am))) := (mu_ne nca).trans gC1
        have g2a : mu N1 a (.lst ((List.range i).map fMv ++ [fMv i])) a = some (.lst ((List.range (i + 1)).map fMv)) := by rw [mu_same, List.range_succ, List.map_append]; rfl
        have fg2 : Fg M (mu N1 a (.lst ((List.range i).map fMv ++ [fMv i]))) := fg_mu fg1 haM nohid_l
        show enumP _ (mu N1 a (.lst ((List.range i).map fMv ++ [fMv i]))) _
        generalize mu N1 a (.lst ((List.range i).map fMv ++ [fMv i])) = N2 at g2q g2c g2a fg2
        rw [enum_l (lget_of g2q), enum_pv]
        refine lc_map (fun p : PV × Nat => PV.tup [.int (p.2 : Nat), p.1]) (mvN "h") (hsteps n i h room am).zipIdx [] (lget_of g2q) (by simp; unfold sizeLine; omega) (fun p hp kk hkk => ?_) ?_
        · have hp2 := zip_at hp
          have hp3 := (List.getElem?_eq_some_iff.mp hp2).1
          have hl : (Str.ofString "h" ++ (Str.ofString (toString (p.2 : Int)))).length ≤ sizeLine := tn_len (c := "h") (b := p.2) (by decide) (by omega)
          rw [str_len] at hl
          try walk_at "z"
          exact ⟨num_log (by omega) (by omega), hl, by decide, by decide, hkk _ Fg.refl⟩
        intro q3 hq3
        rw [List.nil_append]
        have g3c := at_new hq3 g2c (o' := .lst ((hsteps n i h room am).zipIdx.map (mvN "h")))
        have g3a := at_new hq3 g2a (o' := .lst ((hsteps n i h room am).zipIdx.map (mvN "h")))
        have fg3 := fg_new (o := .lst ((hsteps n i h room am).zipIdx.map (mvN "h"))) fg2 hq3 nohid_l
        have lm : mthO .append (.ref c) (mu N2 q3 (.lst ((hsteps n i h room am).zipIdx.map (mvN "h")))) := by rw [m_lst (.inl rfl) (lget_of g3c)]; trivial
        refine ⟨lm, by decide, ?_⟩
        show bltP _ _ _ _
        rw [f_tupl lget_mu]
        try walk_at "z"
        refine ⟨by decide, ?_⟩
        rw [m_app g3c]
        refine ⟨by rw [List.length_map, List.length_range]; unfold sizeLine; omega, ?_⟩
        refine k_of hk ⟨_, _, _, _, rfl, fg_mu fg3 hcM nohid_l, by rw [mu_ne (Ne.symm nca)]; exact g3a, ?_⟩
        rw [mu_same]
        show _ = some (MO.lst ((List.range (i + 1)).map (hSt n h room am)))
        rw [List.range_succ, List.map_append]
        rfl
      | false =>
        try walk_at "z"
        rw [seq_refE (lget_of hq1)]
        refine for_by (fun pre post τ N' => ∃ u14 : Option PV, τ = [some (.int n), some (.int m), some (.int h), some (.int room), some (.int am), some (.bl false), some (.tup (namesV n)), some (natP i), some (.tup [.str (Str.ofString "put"), .tup ((List.range n).map fun b => .tup [natP b, .int room, .tup [.tup [.int (-1), .int room]]]), .int 1]), some (.ref a), some (.ref c), some (.ref q), u12, none, u14, none] ∧ pre ++ post = hsteps n i h room am ∧ Fg M N' ∧ N' q = some (.lst (hsteps n i h room am)) ∧ N' c = some (.lst []) ∧ N' a = some (.lst ((((List.range i).flatMap fun b : Nat => hsteps n b h room am) ++ pre).zipIdx.map (mvN "f")))) (fun _ _ _ _ h => ?_) ?_ ?_ _ [] _ _ ⟨_, rfl, rfl, fg1, hq1, gC1, by rw [List.append_nil]; exact gA1⟩
        · obtain ⟨_, _, _, _, h, _⟩ := h; exact lget_of h
        · rintro pre τ N' ⟨u14, rfl, ep, fg', g1, g2, g3⟩
          rw [List.append_nil] at ep
          subst ep
          refine k_of hk ⟨_, _, _, _, rfl, fg', ?_, g2⟩
          rw [g3]
          show _ = some (MO.lst (((List.range (i + 1)).flatMap fun b : Nat => hsteps n b h room am).zipIdx.map (mvN "f")))
          rw [List.range_succ, List.flatMap_append, List.flatMap_cons, List.flatMap_nil, List.append_nil]
        · rintro pre x post τ N' k2 ⟨u14, rfl, ep, fg', g1, g2, g3⟩ hk2
          have hpl : pre.length < (hsteps n i h room am).length := by rw [← ep]; simp
          have hi8 : i * 256 ≤ 8 * 256 := Nat.mul_le_mul_right _ (by omega)
          try walk_at "z"
          refine ⟨by rw [m_lst (.inl rfl) (lget_of g3)]; trivial, ?_⟩
          rw [f_lenr (lget_of g3)]
          have hlen : ((((List.range i).flatMap fun b : Nat => hsteps n b h room am) ++ pre).zipIdx.map (mvN "f")).length = (((List.range i).flatMap fun b : Nat => hsteps n b h room am) ++ pre).length := by rw [List.length_map, List.length_zipIdx]
          have hlt : (((List.range i).flatMap fun b : Nat => hsteps n b h room am) ++ pre).length < 10000 := by rw [List.length_append]; omega
          rw [hlen]
          have hl : (Str.ofString "f" ++ (Str.ofString (toString (((((List.range i).flatMap fun b : Nat => hsteps n b h room am) ++ pre).length : Nat) : Int)))).length ≤ sizeLine := by
            rw [str_len]
            have := num_len (n := (((((List.range i).flatMap fun b : Nat => hsteps n b h room am) ++ pre).length : Nat) : Int)) (by omega) (by omega)
            have h1 : (Str.ofString "f").length = 1 := by decide
            rw [h1]
            unfold sizeLine
            omega
          rw [str_len] at hl
          try walk_at "z"
          refine ⟨num_log (by omega) (by omega), hl, by decide, by decide, ?_⟩
          rw [m_app g3]
          refine ⟨by rw [hlen]; unfold sizeLine; omega, ?_⟩
          refine k_of hk2 ⟨_, rfl, by rw [List.append_assoc]; exact ep, fg_mu fg' haM nohid_l, by rw [mu_ne nqa]; exact g1, by rw [mu_ne nca]; exact g2, ?_⟩
          rw [mu_same, ← List.append_assoc, zip_snoc, List.map_append]
          rfl
    · rw [mu_ne (Ne.symm nca), mu_same]
      cases ch <;> rfl
    · rw [mu_same]
      cases ch <;> rfl
  · exact h.elim
def sp_law_whole : ZSp := fun xs M Q E => match xs with
  | [.int _] => Q (.bl true) M
  | _ => False
/-! _law_whole : 0 thing -/
def N_law_whole : List Str := [Str.ofString "thing"]
def ps_law_whole : List Str := [Str.ofString "thing"]
def b_law_whole : ZS :=
  (.seq (.ret (.vand (.cons (.blt .isi (.cons (.var 0) (.cons (.ty "int") .nil))) (.one (.vnot (.blt .isi (.cons (.var 0) (.cons (.ty "bool") .nil)))))))) <|
  .nil)
theorem m_law_whole : Meets 1 1 (wpS b_law_whole) sp_law_whole := by
  intro xs M Q E h
  unfold sp_law_whole at h
  split at h
  · refine ⟨rfl, ?_⟩
    show wpS b_law_whole _ _ [some (.int _)] M
    unfold b_law_whole
    try walk_at "z"
    exact dropQ_id h
  · exact h.elim
theorem isi_non {M : Mp} {Q : ZQ} {t : String} (h : isiB "NoneType" t = some false) : bltP .isi [.non, .ty t] M Q = Q (.bl false) M := f_isi rfl h
def plN (v : PV) : Prop := plain v = true ∨ v = .non
def sp_law_same : ZSp := fun xs M Q E => match xs with
  | [v, u] => (v = u ∧ plN v ∧ psize v ≤ 1048576) ∧ Q (.bl true) M
  | _ => False
/-! _law_same : 0 told, 1 due, 2 pairs, 3 one, 4 other, 5 place -/
def N_law_same : List Str := [Str.ofString "told", Str.ofString "due", Str.ofString "pairs", Str.ofString "one", Str.ofString "other", Str.ofString "place"]
def ps_law_same : List Str := [Str.ofString "told", Str.ofString "due"]
def b_law_same : ZS :=
  (.seq (.asg (.nm 2) (.lst (.cons (.tup (.cons (.var 0) (.cons (.var 1) .nil))) .nil))) <|
  (.seq (.whiles (.cmp .Gt (.blt .len (.cons (.var 2) .nil)) (.int 0))
    (.seq (.asg (.tup 2 (.cons (.nm 3) (.cons (.nm 4) .nil))) (.mth .pop (.var 2) .nil)) <|
    (.seq (.ifs (.tv (.blt .isi (.cons (.var 4) (.cons (.ty "tuple") .nil))))
      (.seq (.ifs (.or (.cons (.not (.tv (.blt .isi (.cons (.var 3) (.cons (.ty "tuple") .nil))))) (.one (.cmp .NotEq (.blt .len (.cons (.var 3) .nil)) (.blt .len (.cons (.var 4) .nil))))))
        (.seq (.ret (.bl false)) <|
        .nil)
        .nil) <|
      (.seq (.fors (.nm 5) (.rng1 (.blt .len (.cons (.var 4) .nil)))
        (.seq (.expr (.mth .append (.var 2) (.cons (.tup (.cons (.ix (.var 3) (.var 5)) (.cons (.ix (.var 4) (.var 5)) .nil))) .nil))) <|
        .nil)) <|
      .nil))
      (.seq (.ifs (.tv (.blt .isi (.cons (.var 4) (.cons (.ty "str") .nil))))
        (.seq (.ifs (.or (.cons (.not (.tv (.blt .isi (.cons (.var 3) (.cons (.ty "str") .nil))))) (.one (.cmp .NotEq (.var 3) (.var 4)))))
          (.seq (.ret (.bl false)) <|
          .nil)
          .nil) <|
        .nil)
        (.seq (.ifs (.cmp .Is (.var 4) .non)
          (.seq (.ifs (.cmp .IsNot (.var 3) .non)
            (.seq (.ret (.bl false)) <|
            .nil)
            .nil) <|
          .nil)
          (.seq (.ifs (.or (.cons (.not (.tv (.call (Str.ofString "_law_whole") 1 sp_law_whole (.cons (.var 3) .nil)))) (.one (.cmp .NotEq (.var 3) (.var 4)))))
            (.seq (.ret (.bl false)) <|
            .nil)
            .nil) <|
          .nil)) <|
        .nil)) <|
      .nil)) <|
    .nil))) <|
  (.seq (.ret (.bl true)) <|
  .nil)))
abbrev twoP (x : PV) : PV := .tup [x, x]
theorem m_law_same : Meets 6 2 (wpS b_law_same) sp_law_same := by
  intro xs M Q E h
  unfold sp_law_same at h
  split at h
  · rename_i v u
    obtain ⟨⟨rfl, hp, hs⟩, hq⟩ := h
    refine ⟨rfl, ?_⟩
    show wpS b_law_same _ _ [some v, some v, none, none, none, none] M
    unfold b_law_same
    try walk_at "z"
    refine ⟨Nat.le_of_ble_eq_true rfl, Nat.le_of_ble_eq_true rfl, fun p hp1 => ?_⟩
    refine while_by (fun m τ M' => ∃ (xs : List PV) (a b c : Option PV), τ = [some v, some v, some (.ref p), a, b, c] ∧ Fg M M' ∧ M' p = some (.lst (xs.map twoP)) ∧ (∀ x ∈ xs, plN x) ∧ m = psizes xs ∧ m ≤ 1048576) (psizes [v]) ⟨[v], none, none, none, rfl, fg_mu Fg.refl hp1 nohid_l, mu_same, fun x hx => by rw [List.mem_singleton.mp hx]; exact hp, rfl, by simp [psizes]; omega⟩ ?_
    rintro m τ M' ⟨xs, a, b, c, rfl, fg, hM, hpl, rfl, hm⟩
    try walk_at "z"
    rw [f_lenr (lget_of hM)]
    try walk_at "z"
    rw [List.length_map]
    by_cases c0 : (0 : Int) < (xs.length : Nat)
    · rw [if_pos c0]
      have hne : xs ≠ [] := fun z => by subst z; simp at c0
      obtain ⟨ini, y, rfl⟩ : ∃ ini y, xs = ini ++ [y] := ⟨xs.dropLast, xs.getLast hne, (List.dropLast_concat_getLast hne).symm⟩
      refine ⟨by rw [m_lst (.inr (.inl rfl)) (lget_of hM)]; trivial, ?_⟩
      have hM9 : M' p = some (.lst (ini.map twoP ++ [twoP y])) := by rw [hM, List.map_append]; rfl
      rw [m_pop hM9]
      have hy : plN y := hpl y (by simp)
      have hini : ∀ x ∈ ini, plN x := fun x hx => hpl x (by simp [hx])
      rw [psizes_app] at hm ⊢
      have fg2 : Fg M (mu M' p (.lst (ini.map twoP))) := fg_mu fg hp1 nohid_l
      have e2 : (mu M' p (.lst (ini.map twoP))) p = some (.lst (ini.map twoP)) := mu_same
      generalize mu M' p (.lst (ini.map twoP)) = N at fg2 e2
      have fin : ∀ c, dropT (fun τ' M' => ∃ m', m' < psizes ini + psizes [y] ∧ ∃ (xs : List PV) (a b c : Option PV), τ' = [some v, some v, some (.ref p), a, b, c] ∧ Fg M M' ∧ M' p = some (.lst (xs.map twoP)) ∧ (∀ x ∈ xs, plN x) ∧ m' = psizes xs ∧ m' ≤ 1048576) [some v, some v, some (.ref p), some y, some y, c] N := fun c => ⟨N, Fg.refl, psizes ini, by have := psize_pos y; simp [psizes]; omega, ini, _, _, _, rfl, fg2, e2, hini, rfl, by omega⟩
      try walk_at "z"
      cases y with
      | int k =>
        try walk_at "z"
        rw [c_is_int]
        try walk_at "z"
        exact fin _
      | str k => try walk_at "z"; exact fin _
      | non =>
        rw [isi_non rfl]
        try walk_at "z"
        rw [isi_non rfl]
        try walk_at "z"
        rw [c_is_non]
        try walk_at "z"
        rw [c_isn_non]
        try walk_at "z"
        exact fin _
      | tup ys =>
        try walk_at "z"
        have hz : plains ys = true := hy.resolve_right (fun z => nomatch z)
        rw [plains_all] at hz
        have hpe : psizes [PV.tup ys] = 1 + psizes ys := by simp [psizes, psize]
        rw [hpe] at hm fin ⊢
        have hle := len_psizes ys
        have hli := len_psizes ini
        refine ⟨by unfold smallI; omega, ?_⟩
        rw [Int.toNat_natCast]
        refine for_rng (fun i τ M' => ∃ c, τ = [some v, some v, some (.ref p), some (.tup ys), some (.tup ys), c] ∧ Fg M M' ∧ M' p = some (.lst ((ini ++ ys.take i).map twoP))) _ 0 (fun _ => trivial) ?_ ?_ _ _ ⟨_, rfl, fg2, by rw [e2]; simp⟩
        · rintro τ M1 ⟨c, rfl, fg3, e3⟩
          refine ⟨M1, Fg.refl, psizes (ini ++ ys), by rw [psizes_app]; omega, ini ++ ys, _, _, _, rfl, fg3, by rw [e3, List.take_length], fun x hx => ?_, rfl, by rw [psizes_app]; omega⟩
          rcases List.mem_append.mp hx with h | h
          · exact hini x h
          · exact .inl (hz x h)
        · rintro i τ M1 k hi ⟨c, rfl, fg3, e3⟩ hk
          have hx : ixP (.tup ys) (.int (0 + (i : Int))) = fun M Q => Q ys[i] M := by
            funext M Q
            exact x_tup (atI_ok (by omega) (by simp [hi]))
          have lm : mthO .append (.ref p) M1 := by rw [m_lst (.inl rfl) (lget_of e3)]; trivial
          try walk_at "z"
          rw [hx]
          refine ⟨lm, by decide, ?_⟩
          rw [m_app e3]
          refine ⟨by rw [List.length_map, List.length_append, List.length_take]; unfold sizeLine; omega, hk _ _ _ Fg.refl ⟨_, rfl, fg_mu fg3 hp1 nohid_l, ?_⟩⟩
          have e5 : ini ++ ys.take (i + 1) = (ini ++ ys.take i) ++ [ys[i]] := by
            rw [List.take_add_one, List.getElem?_eq_getElem hi]
            simp
          rw [mu_same, e5]
          simp only [List.map_append]
          rfl
      | _ => rcases hy with hy | hy <;> cases hy
    · rw [if_neg c0]
      exact dropQ_of fg hq
  · exact h.elim
/-! ### the books judged -/
def cntF (b : Int) : Nat → Int
  | 0 => b
  | t + 1 => cntF b t * (b - 1 - (t : Int)) / ((t : Int) + 1)
theorem cnt_ok : ∀ n : Nat, n ≤ 8 → ∀ hh : Nat, hh < n → cntF (n : Int) hh = ((allSt n (hh : Int) 0 0).length : Int) := by
  decide +kernel
theorem pls_map {α : Type} {f : α → PV} {l : List α} (h : ∀ x ∈ l, plain (f x) = true) : plains (l.map f) = true := plains_all.mpr fun y hy => by
  obtain ⟨x, hx, rfl⟩ := List.mem_map.mp hy
  exact h x hx
theorem pls_app {a b : List PV} (h : plains a = true) (h' : plains b = true) : plains (a ++ b) = true := plains_all.mpr fun y hy => by
  rcases List.mem_append.mp hy with hy | hy
  · exact plains_all.mp h y hy
  · exact plains_all.mp h' y hy
theorem pl_mstp {n b l : Nat} {room am : Int} : plain (mstp n b room am l) = true := by
  show (true && (true && (plains _ && true))) = true
  rw [pls_map fun _ _ => rfl]; rfl
theorem pl_hst {n b : Nat} {h room am : Int} : plains (hsteps n b h room am) = true := pls_map fun _ _ => pl_mstp
theorem pl_mvN {c : String} {L : List PV} (h : plains L = true) : plains (L.zipIdx.map (mvN c)) = true := pls_map fun p hp => by
  show (true && ((plain p.1 && true) && (true && true))) = true
  rw [plains_all.mp h p.1 (List.mem_of_getElem? (zip_at hp))]; rfl
theorem pl_put {n : Nat} {room : Int} : plain (putV n room) = true := by
  show (true && (true && ((true && ((plains _) && (true && true)) && true) && true))) = true
  rw [pls_map fun _ _ => rfl]; rfl
theorem pl_made {ch : Bool} {n : Nat} {m h room am : Int} : plain (madeV ch n m h room am) = true := by
  cases ch
  · show (plains (namesV n) && ((plain (putV n room) && ((true && (plains _ && (plains _ && true))) && true)) && true)) = true
    rw [show plains (namesV n) = true from pls_map fun _ _ => rfl, pl_put, pls_map (f := natP) fun _ _ => rfl, pl_mvN (plains_all.mpr fun y hy => by
      unfold allSt at hy
      obtain ⟨b, _, hy⟩ := List.mem_flatMap.mp hy
      exact plains_all.mp pl_hst y hy)]
    rfl
  · show (plains (namesV n) && (plains _ && true)) = true
    rw [show plains (namesV n) = true from pls_map fun _ _ => rfl, pls_app (by
      show (plain (putV n room) && ((true && (plains _ && (plains _ && true))) && true)) = true
      rw [pl_put, pls_map (f := natP) fun _ _ => rfl, pls_map fun _ _ => rfl]; rfl) (pls_map fun b _ => by
      show (true && (true && (plains _ && true))) = true
      rw [pl_mvN pl_hst]; rfl)]
    rfl
theorem sz_put {n : Nat} {room : Int} (h : n ≤ 8) : psize (putV n room) ≤ 80 := by
  have h1 : psizes ((List.range n).map fun b => PV.tup [natP b, .int room, .tup [.tup [.int (-1), .int room]]]) ≤ (List.range n).length * 7 := psizes_map fun _ _ => by simp [psize, psizes]
  rw [List.length_range] at h1
  simp only [putV, psize, psizes]
  omega
theorem sz_mstp {n b l : Nat} {room am : Int} (h : n ≤ 8) : psize (mstp n b room am l) ≤ 28 := by
  have h1 : psizes ((ons l n).map fun h => PV.tup [natP h, .int am]) ≤ (ons l n).length * 3 := psizes_map fun _ _ => by simp [psize, psizes]
  have := ons_len (l := l) (n := n)
  simp only [mstp, psize, psizes]
  omega
theorem sz_mvN {c : String} {L : List PV} (h : ∀ x ∈ L, psize x ≤ 28) : psizes (L.zipIdx.map (mvN c)) ≤ L.length * 32 := by
  have := psizes_map (f := mvN c) (c := 32) (xs := L.zipIdx) fun p hp => by
    have := h p.1 (List.mem_of_getElem? (zip_at hp))
    simp only [mvN, psize, psizes]
    omega
  rw [List.length_zipIdx] at this
  exact this
theorem sz_made {ch : Bool} {n : Nat} {m h room am : Int} (hn : n ≤ 8) : psize (madeV ch n m h room am) ≤ 100000 := by
  have h1 : psizes (namesV n) ≤ (List.range n).length * 1 := psizes_map fun _ _ => Nat.le_refl _
  have h2 := sz_put (n := n) (room := room) hn
  have h3 : psizes ((lotsN n m).map natP) ≤ (lotsN n m).length * 1 := psizes_map fun _ _ => Nat.le_refl _
  have h4 := lotsN_len (n := n) (m := m) hn
  have hms : ∀ b, ∀ x ∈ hsteps n b h room am, psize x ≤ 28 := fun b x hx => by
    unfold hsteps at hx
    obtain ⟨l, _, rfl⟩ := List.mem_map.mp hx
    exact sz_mstp hn
  rw [List.length_range] at h1
  cases ch
  · have h5 : psizes ((allSt n h room am).zipIdx.map (mvN "f")) ≤ (allSt n h room am).length * 32 := sz_mvN fun x hx => by
      unfold allSt at hx
      obtain ⟨b, _, hx⟩ := List.mem_flatMap.mp hx
      exact hms b x hx
    have h6 := all_len (h := h) (room := room) (am := am) hn
    show psize (symV n m h room am) ≤ _
    simp only [symV, psize, psizes]
    omega
  · have h5 : psizes ((List.range n).map fMv) ≤ (List.range n).length * 4 := psizes_map fun _ _ => by simp [fMv, psize, psizes]
    have h6 : psizes ((List.range n).map (hSt n h room am)) ≤ (List.range n).length * 9000 := psizes_map fun b _ => by
      have h7 := sz_mvN (c := "h") (hms b)
      have h8 := hst_len (n := n) (b := b) (h := h) (room := room) (am := am) hn
      simp only [hSt, psize, psizes]
      omega
    rw [List.length_range] at h5 h6
    show psize (choV n m h room am) ≤ _
    simp only [choV, psize, psizes, psizes_app]
    omega
theorem nohid_a {φ : Hp → Prop} {l : List Addr} : ∀ b, MO.abs φ l ≠ .hid b := fun _ h => nomatch h
def RefC (ch : Bool) (n hh : Nat) : Prop := 8 < n ∨ (ch = false ∧ 150 < cntF (n : Int) hh)
instance {ch : Bool} {n k : Nat} : Decidable (RefC ch n k) := inferInstanceAs (Decidable (_ ∨ _))
def sp_law_book_right : ZSp := fun xs M Q E => match xs with
  | [.int n', .int m, .int h', .int room, .int am] => ∃ n hh : Nat, (n' = (n : Nat) ∧ n ≤ 20 ∧ h' = (hh : Nat) ∧ hh ≤ 20 ∧ (n ≤ 8 → hh < n)) ∧ Q (.bl true) M
  | _ => False
/-! _law_book_right : 0 boxes, 1 many, 2 helpers, 3 room, 4 amount, 5 count, 6 turn, 7 chosen, 8 refused, 9 told, 10 found -/
def N_law_book_right : List Str := [Str.ofString "boxes", Str.ofString "many", Str.ofString "helpers", Str.ofString "room", Str.ofString "amount", Str.ofString "count", Str.ofString "turn", Str.ofString "chosen", Str.ofString "refused", Str.ofString "told", Str.ofString "found"]
def ps_law_book_right : List Str := [Str.ofString "boxes", Str.ofString "many", Str.ofString "helpers", Str.ofString "room", Str.ofString "amount"]
def b_law_book_right : ZS :=
  (.seq (.asg (.nm 5) (.var 0)) <|
  (.seq (.fors (.nm 6) (.rng1 (.var 2))
    (.seq (.asg (.nm 5) (.bin .FloorDiv (.bin .Mult (.var 5) (.bin .Sub (.bin .Sub (.var 0) (.int 1)) (.var 6))) (.bin .Add (.var 6) (.int 1)))) <|
    .nil)) <|
  (.seq (.fors (.nm 7) (.seq (.tup (.cons (.bl false) (.cons (.bl true) .nil))))
    (.seq (.asg (.nm 8) (.vor (.cons (.cmp .Gt (.var 0) (.int 8)) (.one (.vand (.cons (.vnot (.var 7)) (.one (.cmp .Gt (.var 5) (.int 150))))))))) <|
    (.seq (.tryF
      (.seq (.ifs (.tv (.var 7))
        (.seq (.asg (.nm 9) (.call (Str.ofString "choosing_book") 5 sp_choosing_book (.cons (.var 0) (.cons (.var 1) (.cons (.var 2) (.cons (.var 3) (.cons (.var 4) .nil))))))) <|
        .nil)
        (.seq (.asg (.nm 9) (.call (Str.ofString "symmetric_book") 5 sp_symmetric_book (.cons (.var 0) (.cons (.var 1) (.cons (.var 2) (.cons (.var 3) (.cons (.var 4) .nil))))))) <|
        .nil)) <|
      .nil)
      (Str.ofString "BadCall") [Str.ofString "word"] 10 (.not (.tv (.var 8))) (.same (Str.ofString "_law_same") 2 sp_law_same (.one (.fld (Str.ofString "word"))) (.one (.z (.str (Str.ofString "limit")))))
      (.seq (.ifs (.or (.cons (.tv (.var 8)) (.one (.not (.tv (.call (Str.ofString "_law_same") 2 sp_law_same (.cons (.var 9) (.cons (.call (Str.ofString "_law_made") 6 sp_law_made (.cons (.var 0) (.cons (.var 1) (.cons (.var 2) (.cons (.var 3) (.cons (.var 4) (.cons (.var 7) .nil))))))) .nil))))))))
        (.seq (.ret (.bl false)) <|
        .nil)
        .nil) <|
      .nil)) <|
    .nil))) <|
  (.seq (.ret (.bl true)) <|
  .nil))))
theorem m_law_book_right : Meets 11 5 (wpS b_law_book_right) sp_law_book_right := by
  intro xs M Q E h
  unfold sp_law_book_right at h
  split at h
  · rename_i n' m h' room am
    obtain ⟨n, hh, ⟨rfl, hn, rfl, hh2, hhn⟩, hq⟩ := h
    refine ⟨rfl, ?_⟩
    show wpS b_law_book_right _ _ [some (.int n), some (.int m), some (.int hh), some (.int room), some (.int am), none, none, none, none, none, none] M
    unfold b_law_book_right
    refine asg_cut (v := .int n) (fun Q h => h) ?_
    refine seq_post (Post := fun τ N => ∃ u6 : Option PV, τ = [some (.int n), some (.int m), some (.int hh), some (.int room), some (.int am), some (.int (cntF (n : Int) hh)), u6, none, none, none, none] ∧ N = M) (fun nx' hnx => ?_) ?_
    · try walk_at "z"
      refine ⟨⟨by omega, by omega⟩, ?_⟩
      rw [Int.toNat_natCast]
      refine for_rng (fun i τ N => ∃ u6 : Option PV, τ = [some (.int n), some (.int m), some (.int hh), some (.int room), some (.int am), some (.int (cntF (n : Int) i)), u6, none, none, none, none] ∧ N = M) _ 0 (fun _ => trivial) ?_ ?_ _ _ ⟨none, rfl, rfl⟩
      · rintro τ N ⟨u6, rfl, rfl⟩
        exact hnx _ _ ⟨u6, rfl, rfl⟩
      · rintro i τ N k hi ⟨u6, rfl, rfl⟩ hk
        try walk_at "z"
        rw [Int.zero_add]
        refine ⟨.inl (.inr ⟨by omega, by omega⟩), .inl ⟨by omega, by omega⟩, ?_⟩
        exact k_of hk ⟨_, rfl, rfl⟩
    rintro _ _ ⟨u6, rfl, rfl⟩
    rename_i M
    rw [s_seq, s_fors, i_seq, e_tup, a_cons, e_bl, a_cons, e_bl, a_nil]
    refine ⟨by decide, ?_⟩
    rw [seq_tupE]
    show forP _ _ _ (List.map PV.bl [false, true]) _ _
    refine for_map PV.bl _ (fun pre τ N => ∃ u7 u8 u9 u10 : Option PV, τ = [some (.int n), some (.int m), some (.int hh), some (.int room), some (.int am), some (.int (cntF (n : Int) hh)), u6, u7, u8, u9, u10] ∧ Fg M N) (fun _ _ _ _ _ _ => trivial) ?_ ?_ _ _ ⟨_, _, _, _, rfl, Fg.refl⟩
    · rintro τ N ⟨u7, u8, u9, u10, rfl, fg⟩
      try walk_at "z"
      exact dropQ_of fg hq
    · rintro pre ch post τ N k ep ⟨u7, u8, u9, u10, rfl, fg⟩ hk
      rw [g_nm]
      refine asg_cut (v := .bl (decide (RefC ch n hh))) (fun Q h => ?_) ?_
      · have e : ∀ p : Prop, [Decidable p] → (RefC ch n hh ↔ p) → Q (.bl (decide p)) N := fun p _ hp => by
          rw [show decide p = decide (RefC ch n hh) from decide_eq_decide.mpr hp.symm]; exact h
        try walk_at "z"
        by_cases c1 : (8 : Int) < (n : Int)
        · rw [if_pos c1]
          exact e _ ⟨fun _ => c1, fun _ => .inl (by omega)⟩
        · rw [if_neg c1]
          cases ch with
          | true =>
            try walk_at "z"
            have := e False ⟨fun z => z.elim (by omega) (fun z => nomatch z.1), fun z => z.elim⟩
            exact this
          | false =>
            try walk_at "z"
            exact e _ ⟨fun z => z.elim (by omega) (fun z => z.2), fun z => .inr ⟨rfl, z⟩⟩
      · show wpS _ _ _ [some (.int n), some (.int m), some (.int hh), some (.int room), some (.int am), some (.int (cntF (n : Int) hh)), u6, some (.bl ch), some (.bl (decide (RefC ch n hh))), u9, u10] _
        by_cases hr : RefC ch n hh
        · rw [decide_eq_true hr]
          cases ch with
          | true =>
            try walk_at "z"
            have h8 : 8 < n := hr.elim id (fun z => nomatch z.1)
            refine ⟨n, ⟨rfl, hn⟩, fun z => absurd h8 (by omega), fun _ => ⟨rfl, by simp, by simp, fun a d φ hd => ?_⟩⟩
            try walk_at "z"
            refine ⟨rfl, mu_same, .str (Str.ofString "limit"), rfl, ?_⟩
            try walk_at "z"
            refine ⟨⟨rfl, .inl rfl, Nat.le_of_ble_eq_true rfl⟩, ?_⟩
            try walk_at "z"
            exact k_of hk ⟨_, _, _, _, rfl, fg_new fg hd nohid_a⟩
          | false =>
            try walk_at "z"
            have hB : RefB n (hh : Int) := by
              by_cases h8 : 8 < n
              · exact .inl h8
              · rcases hr with z | z
                · exact .inl z
                · have := cnt_ok n (by omega) hh (hhn (by omega))
                  exact .inr (by have := z.2; omega)
            refine ⟨n, ⟨rfl, hn⟩, fun z => absurd hB z, fun _ => ⟨rfl, by simp, by simp, fun a d φ hd => ?_⟩⟩
            try walk_at "z"
            refine ⟨rfl, mu_same, .str (Str.ofString "limit"), rfl, ?_⟩
            try walk_at "z"
            refine ⟨⟨rfl, .inl rfl, Nat.le_of_ble_eq_true rfl⟩, ?_⟩
            try walk_at "z"
            exact k_of hk ⟨_, _, _, _, rfl, fg_new fg hd nohid_a⟩
        · rw [decide_eq_false hr]
          have h8 : n ≤ 8 := Nat.le_of_not_lt fun z => hr (.inl z)
          have sz := fun ch => sz_made (ch := ch) (m := m) (h := (hh : Int)) (room := room) (am := am) h8
          cases ch with
          | true =>
            try walk_at "z"
            refine ⟨n, ⟨rfl, hn⟩, fun _ => ?_, fun z => absurd h8 (by omega)⟩
            try walk_at "z"
            refine ⟨n, ⟨rfl, h8⟩, ?_⟩
            try walk_at "z"
            refine ⟨⟨rfl, .inl (pl_made (ch := true)), ?_⟩, ?_⟩
            · have := sz true
              exact Nat.le_trans this (by decide)
            try walk_at "z"
            exact k_of hk ⟨_, _, _, _, rfl, fg⟩
          | false =>
            try walk_at "z"
            have hB : ¬ RefB n (hh : Int) := fun z => by
              rcases z with z | z
              · omega
              · have := cnt_ok n h8 hh (hhn h8)
                exact hr (.inr ⟨rfl, by omega⟩)
            refine ⟨n, ⟨rfl, hn⟩, fun _ => ?_, fun z => absurd z hB⟩
            try walk_at "z"
            refine ⟨n, ⟨rfl, h8⟩, ?_⟩
            try walk_at "z"
            refine ⟨⟨rfl, .inl (pl_made (ch := false)), ?_⟩, ?_⟩
            · have := sz false
              exact Nat.le_trans this (by decide)
            try walk_at "z"
            exact k_of hk ⟨_, _, _, _, rfl, fg⟩
  · exact h.elim
/-! ### the formulas -/
def trm (h r a p : Int) : Int := min r (max 0 (h - p) * a)
def fP (l m : Nat) (h r a : Int) : Int := ((List.range (m - l)).map fun i : Nat => trm h r a ((l : Int) + (i : Int))).sum
def tms (m : Nat) (h r a : Int) : List Int := (List.range m).map fun p : Nat => trm h r a (p : Int)
theorem tms_len {m : Nat} {h r a : Int} : (tms m h r a).length = m := by unfold tms; rw [List.length_map, List.length_range]
theorem tms_drop {l m : Nat} {h r a : Int} : (tms m h r a).drop l = (List.range (m - l)).map fun i : Nat => trm h r a ((l : Int) + (i : Int)) := by
  refine List.ext_getElem (by rw [List.length_drop, tms_len, List.length_map, List.length_range]) fun i h1 h2 => ?_
  rw [List.getElem_drop]
  unfold tms
  rw [List.getElem_map, List.getElem_map, List.getElem_range, List.getElem_range]
  congr 1
theorem tms_sum {l m : Nat} {h r a : Int} : ((tms m h r a).drop l).sum = fP l m h r a := by rw [tms_drop]; rfl
theorem tms_sum0 {m : Nat} {h r a : Int} : (tms m h r a).sum = fP 0 m h r a := by rw [← tms_sum, List.drop_zero]
def HOk (h : Int) : Prop := 0 ≤ h ∧ h ≤ 1000
theorem mul_h {h p a : Int} (hh : HOk h) (hp : 0 ≤ p) : mulOk (max 0 (h - p)) a := .inl (.inl ⟨by have := hh.1; omega, by have := hh.2; omega⟩)
def sp_formula_part : ZSp := fun xs M Q E => match xs with
  | [.int l', .int m', .int h, .int r, .int a] => ∃ l m : Nat, (l' = (l : Nat) ∧ m' = (m : Nat) ∧ l ≤ m ∧ m ≤ 300 ∧ HOk h) ∧ Q (.int (fP l m h r a)) M
  | _ => False
/-! formula_part : 0 least, 1 many, 2 helpers, 3 room, 4 amount, 5 place -/
def N_formula_part : List Str := [Str.ofString "least", Str.ofString "many", Str.ofString "helpers", Str.ofString "room", Str.ofString "amount", Str.ofString "place"]
def ps_formula_part : List Str := [Str.ofString "least", Str.ofString "many", Str.ofString "helpers", Str.ofString "room", Str.ofString "amount"]
def b_formula_part : ZS :=
  (.seq (.ret (.blt .sum (.cons (.lc [(Str.ofString "place", 5)] (.nm 5) (.rng2 (.var 0) (.var 1)) .tt (.blt .min (.cons (.var 3) (.cons (.bin .Mult (.blt .max (.cons (.int 0) (.cons (.bin .Sub (.var 2) (.var 5)) .nil))) (.var 4)) .nil)))) .nil))) <|
  .nil)
theorem m_formula_part : Meets 6 5 (wpS b_formula_part) sp_formula_part := by
  intro xs M Q E h
  unfold sp_formula_part at h
  split at h
  · rename_i l' m' h r a
    obtain ⟨l, m, ⟨rfl, rfl, hlm, hm, hh⟩, hq⟩ := h
    refine ⟨rfl, ?_⟩
    show wpS b_formula_part _ _ [some (.int l), some (.int m), some (.int h), some (.int r), some (.int a), none] M
    unfold b_formula_part
    try walk_at "z"
    refine ⟨⟨⟨by omega, by omega⟩, ⟨by omega, by omega⟩⟩, ?_⟩
    have e1 : ((m : Int) - (l : Int)).toNat = m - l := by omega
    rw [e1]
    refine lc_map (fun i : Nat => PV.int ((l : Int) + (i : Int))) (fun i : Nat => PV.int (trm h r a ((l : Int) + (i : Int)))) (List.range (m - l)) [] trivial (by simp; unfold sizeLine; omega) (fun i hi k hk => ?_) ?_
    · try walk_at "z"
      exact ⟨mul_h hh (by omega), hk _ Fg.refl⟩
    · intro q hq1
      rw [List.nil_append]
      have e : (List.range (m - l)).map (fun i : Nat => PV.int (trm h r a ((l : Int) + (i : Int)))) = ((List.range (m - l)).map fun i : Nat => trm h r a ((l : Int) + (i : Int))).map PV.int := by rw [List.map_map]; rfl
      rw [e]
      show bltP _ _ _ _
      rw [f_suml lget_mu]
      exact dropQ_of (fg_mu Fg.refl hq1 nohid_l) hq
  · exact h.elim
def sp_formula_size : ZSp := fun xs M Q E => match xs with
  | [.int m', .int h, .int r, .int a] => ∃ m : Nat, (m' = (m : Nat) ∧ m ≤ 300 ∧ HOk h) ∧ Q (.int (fP 0 m h r a)) M
  | _ => False
/-! formula_size : 0 many, 1 helpers, 2 room, 3 amount -/
def N_formula_size : List Str := [Str.ofString "many", Str.ofString "helpers", Str.ofString "room", Str.ofString "amount"]
def ps_formula_size : List Str := [Str.ofString "many", Str.ofString "helpers", Str.ofString "room", Str.ofString "amount"]
def b_formula_size : ZS :=
  (.seq (.ret (.call (Str.ofString "formula_part") 5 sp_formula_part (.cons (.int 0) (.cons (.var 0) (.cons (.var 1) (.cons (.var 2) (.cons (.var 3) .nil))))))) <|
  .nil)
theorem m_formula_size : Meets 4 4 (wpS b_formula_size) sp_formula_size := by
  intro xs M Q E h
  unfold sp_formula_size at h
  split at h
  · rename_i m' h r a
    obtain ⟨m, ⟨rfl, hm, hh⟩, hq⟩ := h
    refine ⟨rfl, ?_⟩
    show wpS b_formula_size _ _ [some (.int m), some (.int h), some (.int r), some (.int a)] M
    unfold b_formula_size
    try walk_at "z"
    exact ⟨0, m, ⟨rfl, rfl, Nat.zero_le _, hm, hh⟩, dropQ_id hq⟩
  · exact h.elim
/-- the first number below n that passes -/
def ffst (p : Nat → Bool) : Nat → Option Nat
  | 0 => none
  | n + 1 => match ffst p n with
    | some f => some f
    | none => if p n = true then some n else none
theorem ffst_up {p : Nat → Bool} {n f : Nat} (h : ffst p n = some f) : ∀ k, ffst p (n + k) = some f
  | 0 => h
  | k + 1 => by
    show (match ffst p (n + k) with | some f => some f | none => _) = _
    rw [ffst_up h k]
theorem ffst_no {p : Nat → Bool} {n : Nat} (h : ffst p n = none) (hp : p n = false) : ffst p (n + 1) = none := by
  show (match ffst p n with | some f => some f | none => _) = _
  rw [h, hp]; rfl
theorem ffst_yes {p : Nat → Bool} {n : Nat} (h : ffst p n = none) (hp : p n = true) : ffst p (n + 1) = some n := by
  show (match ffst p n with | some f => some f | none => _) = _
  rw [h, hp]; rfl
def cnd (m : Nat) (h r a s : Int) (f : Nat) : Bool := decide (((m : Int) - (f : Int)) * r + fP (m - f) m h r a < s)
def dueV : Option Nat → PV
  | some f => .int (1 + (f : Int))
  | none => .non
theorem due_pl (o : Option Nat) : plN (dueV o) ∧ psize (dueV o) ≤ 1048576 := by
  cases o
  · exact ⟨.inr rfl, Nat.le_of_ble_eq_true rfl⟩
  · exact ⟨.inl rfl, Nat.le_of_ble_eq_true rfl⟩
def sp_formula_moves : ZSp := fun xs M Q E => match xs with
  | [.int m', .int h, .int r, .int a, .int s] => ∃ m : Nat, (m' = (m : Nat) ∧ m ≤ 300 ∧ HOk h) ∧ Q (dueV (ffst (cnd m h r a s) (m + 1))) M
  | _ => False
/-! formula_moves : 0 many, 1 helpers, 2 room, 3 amount, 4 size, 5 fallen -/
def N_formula_moves : List Str := [Str.ofString "many", Str.ofString "helpers", Str.ofString "room", Str.ofString "amount", Str.ofString "size", Str.ofString "fallen"]
def ps_formula_moves : List Str := [Str.ofString "many", Str.ofString "helpers", Str.ofString "room", Str.ofString "amount", Str.ofString "size"]
def b_formula_moves : ZS :=
  (.seq (.fors (.nm 5) (.rng1 (.bin .Add (.var 0) (.int 1)))
    (.seq (.ifs (.cmp .Lt (.bin .Add (.bin .Mult (.bin .Sub (.var 0) (.var 5)) (.var 2)) (.call (Str.ofString "formula_part") 5 sp_formula_part (.cons (.bin .Sub (.var 0) (.var 5)) (.cons (.var 0) (.cons (.var 1) (.cons (.var 2) (.cons (.var 3) .nil))))))) (.var 4))
      (.seq (.ret (.bin .Add (.int 1) (.var 5))) <|
      .nil)
      .nil) <|
    .nil)) <|
  (.seq (.ret .non) <|
  .nil))
theorem m_formula_moves : Meets 6 5 (wpS b_formula_moves) sp_formula_moves := by
  intro xs M Q E h
  unfold sp_formula_moves at h
  split at h
  · rename_i m' h r a s
    obtain ⟨m, ⟨rfl, hm, hh⟩, hq⟩ := h
    refine ⟨rfl, ?_⟩
    show wpS b_formula_moves _ _ [some (.int m), some (.int h), some (.int r), some (.int a), some (.int s), none] M
    unfold b_formula_moves
    try walk_at "z"
    refine ⟨⟨by omega, by omega⟩, ?_⟩
    have e1 : ((m : Int) + 1).toNat = m + 1 := by omega
    rw [e1]
    refine for_rng (fun i τ N => ∃ u5 : Option PV, τ = [some (.int m), some (.int h), some (.int r), some (.int a), some (.int s), u5] ∧ N = M ∧ ffst (cnd m h r a s) i = none) _ 0 (fun _ => trivial) ?_ ?_ _ _ ⟨none, rfl, rfl, rfl⟩
    · rintro τ N ⟨u5, rfl, rfl, hf⟩
      rw [hf] at hq
      try walk_at "z"
      exact dropQ_id hq
    · rintro i τ N k hi ⟨u5, rfl, rfl, hf⟩ hk
      try walk_at "z"
      rw [Int.zero_add]
      have e2 : (m : Int) - (i : Int) = ((m - i : Nat) : Int) := by omega
      refine ⟨.inl (.inl ⟨by omega, by omega⟩), m - i, m, ⟨e2, rfl, by omega, hm, hh⟩, ?_⟩
      try walk_at "z"
      by_cases c : ((m : Int) - (i : Int)) * r + fP (m - i) m h r a < s
      · rw [if_pos c]
        have := ffst_up (ffst_yes hf (show cnd m h r a s i = true from decide_eq_true c)) (m - i)
        rw [show i + 1 + (m - i) = m + 1 by omega] at this
        rw [this] at hq
        exact dropQ_id hq
      · rw [if_neg c]
        exact k_of hk ⟨_, rfl, rfl, ffst_no hf (decide_eq_false c)⟩
  · exact h.elim
def copV (b m r : Int) : Int := r * max 1 ((m - b % 2 + 1) / 2)
def sp_copies_size : ZSp := fun xs M Q E => match xs with
  | [.int b, .int m, .int r] => (-(2 ^ 64) < r ∧ r < 2 ^ 64) ∧ Q (.int (copV b m r)) M
  | _ => False
/-! copies_size : 0 boxes, 1 many, 2 room -/
def N_copies_size : List Str := [Str.ofString "boxes", Str.ofString "many", Str.ofString "room"]
def ps_copies_size : List Str := [Str.ofString "boxes", Str.ofString "many", Str.ofString "room"]
def b_copies_size : ZS :=
  (.seq (.ret (.bin .Mult (.var 2) (.blt .max (.cons (.int 1) (.cons (.bin .FloorDiv (.bin .Add (.bin .Sub (.var 1) (.bin .BitAnd (.var 0) (.int 1))) (.int 1)) (.int 2)) .nil))))) <|
  .nil)
theorem m_copies_size : Meets 3 3 (wpS b_copies_size) sp_copies_size := by
  intro xs M Q E h
  unfold sp_copies_size at h
  split at h
  · rename_i b m r
    obtain ⟨hr, hq⟩ := h
    refine ⟨rfl, ?_⟩
    show wpS b_copies_size _ _ [some (.int b), some (.int m), some (.int r)] M
    unfold b_copies_size
    try walk_at "z"
    rw [PyProof.Rows.bitAnd_m1]
    exact ⟨.inl ⟨by decide, by decide⟩, .inl (.inl hr), dropQ_id hq⟩
  · exact h.elim
def sp_law_terms : ZSp := fun xs M Q E => match xs with
  | [.int m', .int h, .int r, .int a] => ∃ m : Nat, (m' = (m : Nat) ∧ m ≤ 300 ∧ HOk h) ∧ ∀ q, M q = none → Q (.ref q) (mu M q (.lst ((tms m h r a).map PV.int)))
  | _ => False
/-! _law_terms : 0 many, 1 helpers, 2 room, 3 amount, 4 place -/
def N_law_terms : List Str := [Str.ofString "many", Str.ofString "helpers", Str.ofString "room", Str.ofString "amount", Str.ofString "place"]
def ps_law_terms : List Str := [Str.ofString "many", Str.ofString "helpers", Str.ofString "room", Str.ofString "amount"]
def b_law_terms : ZS :=
  (.seq (.ret (.lc [(Str.ofString "place", 4)] (.nm 4) (.rng1 (.var 0)) .tt (.blt .min (.cons (.var 2) (.cons (.bin .Mult (.blt .max (.cons (.int 0) (.cons (.bin .Sub (.var 1) (.var 4)) .nil))) (.var 3)) .nil))))) <|
  .nil)
theorem m_law_terms : Meets 5 4 (wpS b_law_terms) sp_law_terms := by
  intro xs M Q E h
  unfold sp_law_terms at h
  split at h
  · rename_i m' h r a
    obtain ⟨m, ⟨rfl, hm, hh⟩, hq⟩ := h
    refine ⟨rfl, ?_⟩
    show wpS b_law_terms _ _ [some (.int m), some (.int h), some (.int r), some (.int a), none] M
    unfold b_law_terms
    try walk_at "z"
    refine ⟨⟨by omega, by omega⟩, ?_⟩
    rw [Int.toNat_natCast]
    refine lc_map (fun i : Nat => PV.int (0 + (i : Int))) (fun i : Nat => PV.int (trm h r a (i : Int))) (List.range m) [] trivial (by simp; unfold sizeLine; omega) (fun i hi k hk => ?_) ?_
    · try walk_at "z"
      rw [Int.zero_add]
      exact ⟨mul_h hh (by omega), hk _ Fg.refl⟩
    · intro q hq1
      rw [List.nil_append]
      have e : (List.range m).map (fun i : Nat => PV.int (trm h r a (i : Int))) = (tms m h r a).map PV.int := by unfold tms; rw [List.map_map]; rfl
      rw [e]
      exact dropQ_id (hq q hq1)
  · exact h.elim
theorem cut_drop {xs : List PV} {k : Nat} (h : k ≤ xs.length) : cutP xs (some (k : Int)) none = xs.drop k := by
  unfold cutP
  have e2 : HT.sIx xs.length xs.length none = xs.length := rfl
  have e1 : HT.sIx xs.length 0 (some (k : Int)) = k := by
    unfold HT.sIx; dsimp only; split <;> omega
  rw [e2, e1, List.take_of_length_le (by rw [List.length_drop]; exact Nat.le_refl _)]
def sp_law_formulas_right : ZSp := fun xs M Q E => match xs with
  | [.ref p, .int m', .int h, .int r, .int a] => ∃ m : Nat, (Pool M p ∧ m' = (m : Nat) ∧ m ≤ 250 ∧ HOk h ∧ (-(2 ^ 64) < r ∧ r < 2 ^ 64)) ∧ Q (.bl true) M
  | _ => False
/-! _law_formulas_right : 0 pool, 1 many, 2 helpers, 3 room, 4 amount, 5 terms, 6 boxes, 7 wide, 8 asked, 9 place, 10 part, 11 size, 12 due, 13 moves -/
def N_law_formulas_right : List Str := [Str.ofString "pool", Str.ofString "many", Str.ofString "helpers", Str.ofString "room", Str.ofString "amount", Str.ofString "terms", Str.ofString "boxes", Str.ofString "wide", Str.ofString "asked", Str.ofString "place", Str.ofString "part", Str.ofString "size", Str.ofString "due", Str.ofString "moves"]
def ps_law_formulas_right : List Str := [Str.ofString "pool", Str.ofString "many", Str.ofString "helpers", Str.ofString "room", Str.ofString "amount"]
def b_law_formulas_right : ZS :=
  (.seq (.asg (.nm 5) (.call (Str.ofString "_law_terms") 4 sp_law_terms (.cons (.var 1) (.cons (.var 2) (.cons (.var 3) (.cons (.var 4) .nil)))))) <|
  (.seq (.ifs (.not (.tv (.call (Str.ofString "_law_same") 2 sp_law_same (.cons (.call (Str.ofString "formula_size") 4 sp_formula_size (.cons (.var 1) (.cons (.var 2) (.cons (.var 3) (.cons (.var 4) .nil))))) (.cons (.blt .sum (.cons (.var 5) .nil)) .nil)))))
    (.seq (.ret (.bl false)) <|
    .nil)
    .nil) <|
  (.seq (.asg (.nm 6) (.bin .Add (.int 2) (.call (Str.ofString "_law_draw") 2 sp_law_draw (.cons (.var 0) (.cons (.int 198) .nil))))) <|
  (.seq (.fors (.nm 7) (.seq (.tup (.cons (.var 6) (.cons (.bin .Add (.var 6) (.int 1)) .nil))))
    (.seq (.fors (.nm 8) (.seq (.tup (.cons (.var 1) (.cons (.int 3) (.cons (.int 4) (.cons (.int 1) .nil))))))
      (.seq (.ifs (.not (.tv (.call (Str.ofString "_law_same") 2 sp_law_same (.cons (.call (Str.ofString "copies_size") 3 sp_copies_size (.cons (.var 7) (.cons (.var 8) (.cons (.var 3) .nil)))) (.cons (.bin .Mult (.var 3) (.blt .max (.cons (.int 1) (.cons (.bin .FloorDiv (.bin .Add (.bin .Sub (.var 8) (.bin .Mod (.blt .int (.cons (.var 7) .nil)) (.int 2))) (.int 1)) (.int 2)) .nil)))) .nil)))))
        (.seq (.ret (.bl false)) <|
        .nil)
        .nil) <|
      .nil)) <|
    .nil)) <|
  (.seq (.asg (.nm 9) (.call (Str.ofString "_law_draw") 2 sp_law_draw (.cons (.var 0) (.cons (.bin .Add (.var 1) (.int 1)) .nil)))) <|
  (.seq (.asg (.nm 10) (.bin .Add (.bin .Mult (.bin .Sub (.var 1) (.var 9)) (.var 3)) (.blt .sum (.cons (.sl (.var 5) (.some (.bin .Sub (.var 1) (.var 9))) .none) .nil)))) <|
  (.seq (.fors (.nm 11) (.seq (.tup (.cons (.blt .sum (.cons (.var 5) .nil)) (.cons (.bin .Add (.blt .sum (.cons (.var 5) .nil)) (.int 1)) (.cons (.var 10) (.cons (.bin .Add (.var 10) (.int 1)) (.cons (.bin .Mult (.var 1) (.var 3)) (.cons (.bin .Add (.bin .Mult (.var 1) (.var 3)) (.int 1)) (.cons (.int 1) .nil)))))))))
    (.seq (.asg (.nm 12) .non) <|
    (.seq (.fors (.nm 13) (.rng1 (.bin .Add (.var 1) (.int 1)))
      (.seq (.ifs (.and (.cons (.cmp .Is (.var 12) .non) (.one (.cmp .Lt (.bin .Add (.bin .Mult (.bin .Sub (.var 1) (.var 13)) (.var 3)) (.blt .sum (.cons (.sl (.var 5) (.some (.bin .Sub (.var 1) (.var 13))) .none) .nil))) (.var 11)))))
        (.seq (.asg (.nm 12) (.bin .Add (.int 1) (.var 13))) <|
        .nil)
        .nil) <|
      .nil)) <|
    (.seq (.ifs (.and (.cons (.cmp .Gt (.var 11) (.int 0)) (.one (.not (.tv (.call (Str.ofString "_law_same") 2 sp_law_same (.cons (.call (Str.ofString "formula_moves") 5 sp_formula_moves (.cons (.var 1) (.cons (.var 2) (.cons (.var 3) (.cons (.var 4) (.cons (.var 11) .nil)))))) (.cons (.var 12) .nil))))))))
      (.seq (.ret (.bl false)) <|
      .nil)
      .nil) <|
    .nil)))) <|
  (.seq (.ret (.bl true)) <|
  .nil))))))))
theorem m_law_formulas_right : Meets 14 5 (wpS b_law_formulas_right) sp_law_formulas_right := by
  intro xs M Q E h
  unfold sp_law_formulas_right at h
  split at h
  · rename_i p m' h r a
    obtain ⟨m, ⟨hP, rfl, hm, hh, hr⟩, hq⟩ := h
    refine ⟨rfl, ?_⟩
    show wpS b_law_formulas_right _ _ [some (.ref p), some (.int m), some (.int h), some (.int r), some (.int a), none, none, none, none, none, none, none, none, none] M
    unfold b_law_formulas_right
    have pin : ∀ k : Int, plN (.int k) ∧ psize (.int k) ≤ 1048576 := fun k => ⟨.inl rfl, Nat.le_of_ble_eq_true rfl⟩
    refine asg_any (Post := fun v M' => ∃ t, v = .ref t ∧ Fg M M' ∧ M' t = some (.lst ((tms m h r a).map PV.int))) (fun Q hQ => ?_) ?_
    · try walk_at "z"
      exact ⟨m, ⟨rfl, by omega, hh⟩, fun t ht => hQ _ _ ⟨t, rfl, fg_mu Fg.refl ht nohid_l, mu_same⟩⟩
    rintro _ M1 ⟨t, rfl, fg1, ht1⟩
    have hP1 := hP.fg fg1
    refine ifs_no (fun Q hQ => ?_) ?_
    · try walk_at "z"
      refine ⟨m, ⟨rfl, by omega, hh⟩, ?_⟩
      try walk_at "z"
      rw [f_suml (lget_of ht1), tms_sum0]
      try walk_at "z"
      refine ⟨⟨rfl, pin _⟩, ?_⟩
      try walk_at "z"
      exact hQ
    refine asg_any (Post := fun v M' => M' = M1 ∧ ∃ b : Int, v = .int b) (fun Q hQ => ?_) ?_
    · try walk_at "z"
      exact ⟨⟨hP1, by decide⟩, fun b _ _ => hQ _ _ ⟨rfl, _, rfl⟩⟩
    rintro _ _ ⟨rfl, b, rfl⟩
    rename_i M1
    refine seq_post (Post := fun τ N => ∃ u7 u8 : Option PV, τ = [some (.ref p), some (.int m), some (.int h), some (.int r), some (.int a), some (.ref t), some (.int b), u7, u8, none, none, none, none, none] ∧ N = M1) (fun nx' hnx => ?_) ?_
    · try walk_at "z"
      refine ⟨by decide, ?_⟩
      show forP _ _ _ (List.map PV.int [b, b + 1]) _ _
      refine for_map PV.int _ (fun pre τ N => ∃ u7 u8 : Option PV, τ = [some (.ref p), some (.int m), some (.int h), some (.int r), some (.int a), some (.ref t), some (.int b), u7, u8, none, none, none, none, none] ∧ N = M1) (fun _ _ _ _ _ _ => trivial) ?_ ?_ _ _ ⟨none, none, rfl, rfl⟩
      · rintro τ N ⟨u7, u8, rfl, rfl⟩
        exact hnx _ _ ⟨_, _, rfl, rfl⟩
      · rintro pre w post τ N k ep ⟨u7, u8, rfl, rfl⟩ hk
        try walk_at "z"
        refine ⟨by decide, ?_⟩
        show forP _ _ _ (List.map PV.int [(m : Int), 3, 4, 1]) _ _
        refine for_map PV.int _ (fun pre τ N' => ∃ u8 : Option PV, τ = [some (.ref p), some (.int m), some (.int h), some (.int r), some (.int a), some (.ref t), some (.int b), some (.int w), u8, none, none, none, none, none] ∧ N' = N) (fun _ _ _ _ _ _ => trivial) ?_ ?_ _ _ ⟨_, rfl, rfl⟩
        · rintro τ N' ⟨u8, rfl, rfl⟩
          exact k_of hk ⟨_, _, rfl, rfl⟩
        · rintro pre2 y post2 τ N' k2 ep2 ⟨u8, rfl, rfl⟩ hk2
          try walk_at "z"
          refine ⟨hr, ?_⟩
          try walk_at "z"
          refine ⟨by decide, .inl ⟨by decide, by decide⟩, .inl (.inl hr), ⟨rfl, pin _⟩, ?_⟩
          try walk_at "z"
          exact k_of hk2 ⟨_, rfl, rfl⟩
    rintro _ _ ⟨u7, u8, rfl, rfl⟩
    rename_i M1
    refine asg_any (Post := fun v M' => M' = M1 ∧ ∃ pl : Nat, v = natP pl ∧ pl ≤ m) (fun Q hQ => ?_) ?_
    · try walk_at "z"
      exact ⟨⟨hP1, by omega⟩, fun b h0 h1 => hQ _ _ ⟨rfl, b.toNat, by show PV.int b = .int _; congr 1; omega, by omega⟩⟩
    rintro _ _ ⟨rfl, pl, rfl, hpl⟩
    rename_i M1
    have hsl : ∀ (N : Mp) (f : Nat) (Q : ZQ), N t = some (.lst ((tms m h r a).map PV.int)) → f ≤ m → (∀ q, N q = none → Q (.ref q) (mu N q (.lst (((tms m h r a).drop (m - f)).map PV.int)))) → slP (.ref t) (some ((m : Int) - (f : Int))) none N Q := fun N f Q hN hf hQ => by
      rw [sl_listP (lget_of hN), show ((m : Int) - (f : Int)) = ((m - f : Nat) : Int) by omega, cut_drop (by rw [List.length_map, tms_len]; omega), ← List.map_drop]
      exact hQ
    refine asg_any (Post := fun v M' => Fg M1 M' ∧ ∃ pa : Int, v = .int pa) (fun Q hQ => ?_) ?_
    · try walk_at "z"
      refine ⟨.inl (.inl ⟨by omega, by omega⟩), ?_⟩
      refine hsl _ _ _ ht1 hpl fun q hq1 => ?_
      try walk_at "z"
      rw [f_suml lget_mu]
      exact hQ _ _ ⟨fg_mu Fg.refl hq1 nohid_l, _, rfl⟩
    rintro _ M2 ⟨fg2, pa, rfl⟩
    have ht2 := fg2.1 _ _ ht1
    have fgM2 := fg1.trans fg2
    refine seq_post (Post := fun τ N => Fg M N) (fun nx' hnx => ?_) ?_
    · rw [s_fors, i_seq]
      have hlist : ∀ Q : ZSeq → Mp → Prop, (∀ xs : List PV, (∀ x ∈ xs, ∃ k : Int, x = .int k) → Q ⟨xs, fun _ => True⟩ M2) → wpE (.tup (.cons (.blt .sum (.cons (.var 5) .nil)) (.cons (.bin .Add (.blt .sum (.cons (.var 5) .nil)) (.int 1)) (.cons (.var 10) (.cons (.bin .Add (.var 10) (.int 1)) (.cons (.bin .Mult (.var 1) (.var 3)) (.cons (.bin .Add (.bin .Mult (.var 1) (.var 3)) (.int 1)) (.cons (.int 1) .nil)))))))) E [some (.ref p), some (.int m), some (.int h), some (.int r), some (.int a), some (.ref t), some (.int b), u7, u8, some (natP pl), some (.int pa), none, none, none] M2 (fun x M => seqP x M Q) := fun Q hQ => by
        try walk_at "z"
        rw [f_suml (lget_of ht2)]
        try walk_at "z"
        rw [f_suml (lget_of ht2)]
        try walk_at "z"
        refine ⟨.inl (.inr hr), .inl (.inr hr), by decide, ?_⟩
        refine hQ _ fun x hx => ?_
        simp only [List.mem_cons, List.not_mem_nil, or_false] at hx
        rcases hx with rfl | rfl | rfl | rfl | rfl | rfl | rfl <;> exact ⟨_, rfl⟩
      refine hlist _ fun xs hxs => ?_
      refine for_by (fun pre post τ N => ∃ u11 u12 u13 : Option PV, τ = [some (.ref p), some (.int m), some (.int h), some (.int r), some (.int a), some (.ref t), some (.int b), u7, u8, some (natP pl), some (.int pa), u11, u12, u13] ∧ Fg M N ∧ N t = some (.lst ((tms m h r a).map PV.int)) ∧ ∀ x ∈ post, ∃ k : Int, x = .int k) (fun _ _ _ _ _ => trivial) ?_ ?_ _ [] _ _ ⟨none, none, none, rfl, fgM2, ht2, hxs⟩
      · rintro pre τ N ⟨u11, u12, u13, rfl, fg, hN, _⟩
        exact hnx _ _ fg
      · rintro pre x post τ N k ⟨u11, u12, u13, rfl, fg, hN, hx⟩ hk
        obtain ⟨s, rfl⟩ := hx x List.mem_cons_self
        try walk_at "z"
        refine ⟨⟨by omega, by omega⟩, ?_⟩
        have e1 : ((m : Int) + 1).toNat = m + 1 := by omega
        rw [e1]
        refine for_rng (fun i τ N' => ∃ u13 : Option PV, τ = [some (.ref p), some (.int m), some (.int h), some (.int r), some (.int a), some (.ref t), some (.int b), u7, u8, some (natP pl), some (.int pa), some (.int s), some (dueV (ffst (cnd m h r a s) i)), u13] ∧ Fg M N' ∧ N' t = some (.lst ((tms m h r a).map PV.int))) _ 0 (fun _ => trivial) ?_ ?_ _ _ ⟨_, rfl, fg, hN⟩
        · rintro τ N' ⟨u13, rfl, fg', hN'⟩
          try walk_at "z"
          have hk' : k [some (.ref p), some (.int m), some (.int h), some (.int r), some (.int a), some (.ref t), some (.int b), u7, u8, some (natP pl), some (.int pa), some (.int s), some (dueV (ffst (cnd m h r a s) (m + 1))), u13] N' := k_of hk ⟨_, _, _, rfl, fg', hN', fun x hx' => hx x (List.mem_cons_of_mem _ hx')⟩
          by_cases c : 0 < s
          · rw [if_pos c]
            refine ⟨m, ⟨rfl, by omega, hh⟩, ⟨rfl, due_pl _⟩, ?_⟩
            try walk_at "z"
            exact hk'
          · rw [if_neg c]
            exact hk'
        · rintro i τ N' k2 hi ⟨u13, rfl, fg', hN'⟩ hk2
          try walk_at "z"
          cases ef : ffst (cnd m h r a s) i with
          | some f =>
            have e2 : ffst (cnd m h r a s) (i + 1) = some f := ffst_up ef 1
            show cmpP .Is (.int _) .non _ _
            rw [c_is_int]
            try walk_at "z"
            exact k_of hk2 ⟨some (.int (0 + (i : Int))), by rw [e2], fg', hN'⟩
          | none =>
            show cmpP .Is .non .non _ _
            rw [c_is_non]
            try walk_at "z"
            rw [Int.zero_add]
            refine ⟨.inl (.inl ⟨by omega, by omega⟩), ?_⟩
            refine hsl _ _ _ hN' (by omega) fun q hq1 => ?_
            have fg2 := fg_new (o := .lst (((tms m h r a).drop (m - i)).map PV.int)) fg' hq1 nohid_l
            have hN2 := at_new hq1 hN' (o' := .lst (((tms m h r a).drop (m - i)).map PV.int))
            try walk_at "z"
            rw [f_suml lget_mu, tms_sum]
            try walk_at "z"
            by_cases c : ((m : Int) - (i : Int)) * r + fP (m - i) m h r a < s
            · rw [if_pos c]
              exact k_of hk2 ⟨some (.int (i : Nat)), (by rw [ffst_yes ef (show cnd m h r a s i = true from decide_eq_true c)]; try rfl), fg2, hN2⟩
            · rw [if_neg c]
              exact k_of hk2 ⟨some (.int (i : Nat)), (by rw [ffst_no ef (show cnd m h r a s i = false from decide_eq_false c)]; try rfl), fg2, hN2⟩
    rintro τ N fg
    try walk_at "z"
    exact dropQ_of fg hq
  · exact h.elim
/-! ### the least help, the least room -/
theorem trm_nn {h r a p : Int} (hr : 0 ≤ r) (ha : 0 ≤ a) : 0 ≤ trm h r a p := by
  unfold trm
  have : 0 ≤ max 0 (h - p) * a := Int.mul_nonneg (by omega) ha
  omega
theorem sum_bd {α : Type} {f : α → Int} {c : Int} (hc : 0 ≤ c) : ∀ {l : List α}, (∀ x ∈ l, 0 ≤ f x ∧ f x ≤ c) → 0 ≤ (l.map f).sum ∧ (l.map f).sum ≤ (l.length : Int) * c
  | [], _ => by simp
  | x :: l, h => by
    have h1 := h x List.mem_cons_self
    have h2 := sum_bd hc (l := l) fun y hy => h y (List.mem_cons_of_mem _ hy)
    rw [List.map_cons, List.sum_cons, List.length_cons]
    have : ((l.length + 1 : Nat) : Int) * c = (l.length : Int) * c + c := by rw [Int.natCast_add, Int.add_mul]; simp
    omega
theorem fP_bd {l m : Nat} {h r a : Int} (hr : 0 ≤ r) (ha : 0 ≤ a) : 0 ≤ fP l m h r a ∧ fP l m h r a ≤ ((m - l : Nat) : Int) * r := by
  have := sum_bd (f := fun i : Nat => trm h r a ((l : Int) + (i : Int))) (c := r) hr (l := List.range (m - l)) fun i _ => ⟨trm_nn hr ha, by unfold trm; omega⟩
  rw [List.length_range] at this
  exact this
def LeastOf (F : Int → Int) (top s : Int) (Q : PV → Prop) : Prop := (F top < s → Q .non) ∧ (s ≤ F top → ∀ t : Int, 1 ≤ t → t ≤ top → s ≤ F t → (t = 1 ∨ F (t - 1) < s) → Q (.int t))
def sp_least_help : ZSp := fun xs M Q E => match xs with
  | [.int m', .int h, .int r, .int s] => ∃ m : Nat, (m' = (m : Nat) ∧ m ≤ 300 ∧ HOk h ∧ 1 ≤ r) ∧ LeastOf (fun x => fP 0 m h r x) r s fun v => Q v M
  | _ => False
/-! least_help : 0 many, 1 helpers, 2 room, 3 size, 4 low, 5 high, 6 middle -/
def N_least_help : List Str := [Str.ofString "many", Str.ofString "helpers", Str.ofString "room", Str.ofString "size", Str.ofString "low", Str.ofString "high", Str.ofString "middle"]
def ps_least_help : List Str := [Str.ofString "many", Str.ofString "helpers", Str.ofString "room", Str.ofString "size"]
def b_least_help : ZS :=
  (.seq (.ifs (.cmp .Lt (.call (Str.ofString "formula_size") 4 sp_formula_size (.cons (.var 0) (.cons (.var 1) (.cons (.var 2) (.cons (.var 2) .nil))))) (.var 3))
    (.seq (.ret .non) <|
    .nil)
    .nil) <|
  (.seq (.asg (.nm 4) (.int 1)) <|
  (.seq (.asg (.nm 5) (.var 2)) <|
  (.seq (.whiles (.cmp .Lt (.var 4) (.var 5))
    (.seq (.asg (.nm 6) (.bin .FloorDiv (.bin .Add (.var 4) (.var 5)) (.int 2))) <|
    (.seq (.ifs (.cmp .GtE (.call (Str.ofString "formula_size") 4 sp_formula_size (.cons (.var 0) (.cons (.var 1) (.cons (.var 2) (.cons (.var 6) .nil))))) (.var 3))
      (.seq (.asg (.nm 5) (.var 6)) <|
      .nil)
      (.seq (.asg (.nm 4) (.bin .Add (.var 6) (.int 1))) <|
      .nil)) <|
    .nil))) <|
  (.seq (.ret (.var 4)) <|
  .nil)))))
theorem m_least_help : Meets 7 4 (wpS b_least_help) sp_least_help := by
  intro xs M Q E h
  unfold sp_least_help at h
  split at h
  · rename_i m' h r s
    obtain ⟨m, ⟨rfl, hm, hh, hr⟩, hq⟩ := h
    refine ⟨rfl, ?_⟩
    show wpS b_least_help _ _ [some (.int m), some (.int h), some (.int r), some (.int s), none, none, none] M
    unfold b_least_help
    try walk_at "z"
    refine ⟨m, ⟨rfl, hm, hh⟩, ?_⟩
    try walk_at "z"
    by_cases c : fP 0 m h r r < s
    · rw [if_pos c]
      exact dropQ_id (hq.1 c)
    rw [if_neg c]
    have hq := hq.2 (Int.not_lt.mp c)
    refine while_by (fun n τ N => ∃ (lo hi : Int) (u6 : Option PV), τ = [some (.int m), some (.int h), some (.int r), some (.int s), some (.int lo), some (.int hi), u6] ∧ N = M ∧ 1 ≤ lo ∧ lo ≤ hi ∧ hi ≤ r ∧ s ≤ fP 0 m h r hi ∧ (lo = 1 ∨ fP 0 m h r (lo - 1) < s) ∧ n = (hi - lo).toNat) (r - 1).toNat ⟨1, r, none, rfl, rfl, Int.le_refl _, hr, Int.le_refl _, Int.not_lt.mp c, .inl rfl, rfl⟩ ?_
    rintro n τ N ⟨lo, hi, u6, rfl, rfl, h1, h2, h3, h4, h5, rfl⟩
    try walk_at "z"
    by_cases c0 : lo < hi
    · rw [if_pos c0]
      have hmid1 : lo ≤ (lo + hi) / 2 := by omega
      have hmid2 : (lo + hi) / 2 < hi := by omega
      refine ⟨.inl ⟨by decide, by decide⟩, m, ⟨rfl, hm, hh⟩, ?_⟩
      try walk_at "z"
      by_cases c1 : s ≤ fP 0 m h r ((lo + hi) / 2)
      · rw [if_pos c1]
        exact ⟨N, Fg.refl, _, by omega, lo, _, _, rfl, rfl, h1, hmid1, by omega, c1, h5, rfl⟩
      · rw [if_neg c1]
        exact ⟨N, Fg.refl, _, by omega, (lo + hi) / 2 + 1, hi, _, rfl, rfl, by omega, by omega, h3, h4, .inr (by rw [show (lo + hi) / 2 + 1 - 1 = (lo + hi) / 2 by omega]; omega), rfl⟩
    · rw [if_neg c0]
      have : lo = hi := by omega
      subst this
      exact dropQ_id (hq lo h1 h3 h4 h5)
  · exact h.elim
def sp_least_room : ZSp := fun xs M Q E => match xs with
  | [.int m', .int h, .int a, .int s] => ∃ m : Nat, (m' = (m : Nat) ∧ m ≤ 300 ∧ HOk h) ∧ LeastOf (fun x => fP 0 m h x a) (max 1 (h * a)) s fun v => Q v M
  | _ => False
/-! least_room : 0 many, 1 helpers, 2 amount, 3 size, 4 high, 5 low, 6 middle -/
def N_least_room : List Str := [Str.ofString "many", Str.ofString "helpers", Str.ofString "amount", Str.ofString "size", Str.ofString "high", Str.ofString "low", Str.ofString "middle"]
def ps_least_room : List Str := [Str.ofString "many", Str.ofString "helpers", Str.ofString "amount", Str.ofString "size"]
def b_least_room : ZS :=
  (.seq (.asg (.nm 4) (.blt .max (.cons (.int 1) (.cons (.bin .Mult (.var 1) (.var 2)) .nil)))) <|
  (.seq (.ifs (.cmp .Lt (.call (Str.ofString "formula_size") 4 sp_formula_size (.cons (.var 0) (.cons (.var 1) (.cons (.var 4) (.cons (.var 2) .nil))))) (.var 3))
    (.seq (.ret .non) <|
    .nil)
    .nil) <|
  (.seq (.asg (.nm 5) (.int 1)) <|
  (.seq (.whiles (.cmp .Lt (.var 5) (.var 4))
    (.seq (.asg (.nm 6) (.bin .FloorDiv (.bin .Add (.var 5) (.var 4)) (.int 2))) <|
    (.seq (.ifs (.cmp .GtE (.call (Str.ofString "formula_size") 4 sp_formula_size (.cons (.var 0) (.cons (.var 1) (.cons (.var 6) (.cons (.var 2) .nil))))) (.var 3))
      (.seq (.asg (.nm 4) (.var 6)) <|
      .nil)
      (.seq (.asg (.nm 5) (.bin .Add (.var 6) (.int 1))) <|
      .nil)) <|
    .nil))) <|
  (.seq (.ret (.var 5)) <|
  .nil)))))
theorem m_least_room : Meets 7 4 (wpS b_least_room) sp_least_room := by
  intro xs M Q E h
  unfold sp_least_room at h
  split at h
  · rename_i m' h a s
    obtain ⟨m, ⟨rfl, hm, hh⟩, hq⟩ := h
    refine ⟨rfl, ?_⟩
    show wpS b_least_room _ _ [some (.int m), some (.int h), some (.int a), some (.int s), none, none, none] M
    unfold b_least_room
    try walk_at "z"
    refine ⟨.inl (.inl ⟨by have := hh.1; omega, by have := hh.2; omega⟩), m, ⟨rfl, hm, hh⟩, ?_⟩
    generalize hT : max 1 (h * a) = T at hq
    have hT1 : 1 ≤ T := by omega
    try walk_at "z"
    by_cases c : fP 0 m h T a < s
    · rw [if_pos c]
      exact dropQ_id (hq.1 c)
    rw [if_neg c]
    have hq := hq.2 (Int.not_lt.mp c)
    refine while_by (fun n τ N => ∃ (lo hi : Int) (u6 : Option PV), τ = [some (.int m), some (.int h), some (.int a), some (.int s), some (.int hi), some (.int lo), u6] ∧ N = M ∧ 1 ≤ lo ∧ lo ≤ hi ∧ hi ≤ T ∧ s ≤ fP 0 m h hi a ∧ (lo = 1 ∨ fP 0 m h (lo - 1) a < s) ∧ n = (hi - lo).toNat) (T - 1).toNat ⟨1, T, none, rfl, rfl, Int.le_refl _, hT1, Int.le_refl _, Int.not_lt.mp c, .inl rfl, rfl⟩ ?_
    rintro n τ N ⟨lo, hi, u6, rfl, rfl, h1, h2, h3, h4, h5, rfl⟩
    try walk_at "z"
    by_cases c0 : lo < hi
    · rw [if_pos c0]
      have hmid1 : lo ≤ (lo + hi) / 2 := by omega
      have hmid2 : (lo + hi) / 2 < hi := by omega
      refine ⟨.inl ⟨by decide, by decide⟩, m, ⟨rfl, hm, hh⟩, ?_⟩
      try walk_at "z"
      by_cases c1 : s ≤ fP 0 m h ((lo + hi) / 2) a
      · rw [if_pos c1]
        exact ⟨N, Fg.refl, _, by omega, lo, _, _, rfl, rfl, h1, hmid1, by omega, c1, h5, rfl⟩
      · rw [if_neg c1]
        exact ⟨N, Fg.refl, _, by omega, (lo + hi) / 2 + 1, hi, _, rfl, rfl, by omega, by omega, h3, h4, .inr (by rw [show (lo + hi) / 2 + 1 - 1 = (lo + hi) / 2 by omega]; omega), rfl⟩
    · rw [if_neg c0]
      have : lo = hi := by omega
      subst this
      exact dropQ_id (hq lo h1 h3 h4 h5)
  · exact h.elim
theorem fors_any {g : ZG} {e : ZE} {s : ZS} {J : ZJ} {nx : Tau → Mp → Prop} {τ : Tau} {M : Mp} {Post : List PV → Mp → Prop} (he : ∀ Q : ZQ, (∀ xs M', Post xs M' → Q (.tup xs) M') → wpE e (J.ex τ) τ M Q)
    (h : ∀ xs M', Post xs M' → forP (fun _ => True) (fun x τ M k => wpG g x τ M fun τ' M' => wpS s { J with bk := nx, ct := k } k τ' M') nx xs τ M') : wpS (.fors g (.seq e) s) J nx τ M := by
  rw [s_fors, i_seq]
  exact he _ fun xs M' hp => h xs M' hp
theorem fP_249 {m : Nat} {h r a c : Int} (hm : m ≤ 300) (hr : 0 ≤ r) (ha : 0 ≤ a) (hrc : r ≤ c) (hc : c ≤ 2 ^ 100) : 0 ≤ fP 0 m h r a ∧ fP 0 m h r a < 2 ^ 249 := by
  have h1 := fP_bd (l := 0) (m := m) (h := h) hr ha
  have h2 : ((m - 0 : Nat) : Int) * r ≤ 300 * 2 ^ 100 := Int.mul_le_mul (by omega) (by omega) hr (by omega)
  exact ⟨h1.1, by omega⟩
theorem whole_int {k : Int} {M : Mp} {Q : ZQ} {E : ZX} : sp_law_whole [.int k] M Q E = Q (.bl true) M := rfl
def sp_law_least_right : ZSp := fun xs M Q E => match xs with
  | [.ref p, .int m', .int h, .int r, .int a] => ∃ m : Nat, (Pool M p ∧ m' = (m : Nat) ∧ m ≤ 250 ∧ HOk h ∧ (1 ≤ r ∧ r ≤ 2 ^ 60) ∧ (1 ≤ a ∧ a ≤ 2 ^ 60)) ∧ Q (.bl true) M
  | _ => False
/-! _law_least_right : 0 pool, 1 many, 2 helpers, 3 room, 4 amount, 5 most, 6 size, 7 told -/
def N_law_least_right : List Str := [Str.ofString "pool", Str.ofString "many", Str.ofString "helpers", Str.ofString "room", Str.ofString "amount", Str.ofString "most", Str.ofString "size", Str.ofString "told"]
def ps_law_least_right : List Str := [Str.ofString "pool", Str.ofString "many", Str.ofString "helpers", Str.ofString "room", Str.ofString "amount"]
def b_law_least_right : ZS :=
  (.seq (.asg (.nm 5) (.blt .sum (.cons (.call (Str.ofString "_law_terms") 4 sp_law_terms (.cons (.var 1) (.cons (.var 2) (.cons (.var 3) (.cons (.var 3) .nil))))) .nil))) <|
  (.seq (.fors (.nm 6) (.seq (.tup (.cons (.var 5) (.cons (.bin .Add (.var 5) (.int 1)) (.cons (.bin .Add (.int 1) (.call (Str.ofString "_law_number") 2 sp_law_number (.cons (.var 0) (.cons (.var 5) .nil)))) (.cons (.int 1) (.cons (.blt .sum (.cons (.call (Str.ofString "_law_terms") 4 sp_law_terms (.cons (.var 1) (.cons (.var 2) (.cons (.var 3) (.cons (.var 4) .nil))))) .nil)) .nil)))))))
    (.seq (.ifs (.cmp .Lt (.var 6) (.int 1))
      (.seq (.asg (.nm 6) (.int 1)) <|
      .nil)
      .nil) <|
    (.seq (.asg (.nm 7) (.call (Str.ofString "least_help") 4 sp_least_help (.cons (.var 1) (.cons (.var 2) (.cons (.var 3) (.cons (.var 6) .nil)))))) <|
    (.seq (.ifs (.cmp .Lt (.var 5) (.var 6))
      (.seq (.ifs (.cmp .IsNot (.var 7) .non)
        (.seq (.ret (.bl false)) <|
        .nil)
        .nil) <|
      .nil)
      (.seq (.ifs (.or (.cons (.not (.tv (.call (Str.ofString "_law_whole") 1 sp_law_whole (.cons (.var 7) .nil)))) (.cons (.cmp .Lt (.var 7) (.int 1)) (.one (.cmp .Lt (.blt .sum (.cons (.call (Str.ofString "_law_terms") 4 sp_law_terms (.cons (.var 1) (.cons (.var 2) (.cons (.var 3) (.cons (.var 7) .nil))))) .nil)) (.var 6))))))
        (.seq (.ret (.bl false)) <|
        .nil)
        .nil) <|
      (.seq (.ifs (.and (.cons (.cmp .Gt (.var 7) (.int 1)) (.one (.cmp .GtE (.blt .sum (.cons (.call (Str.ofString "_law_terms") 4 sp_law_terms (.cons (.var 1) (.cons (.var 2) (.cons (.var 3) (.cons (.bin .Sub (.var 7) (.int 1)) .nil))))) .nil)) (.var 6)))))
        (.seq (.ret (.bl false)) <|
        .nil)
        .nil) <|
      .nil))) <|
    .nil)))) <|
  (.seq (.asg (.nm 5) (.blt .sum (.cons (.call (Str.ofString "_law_terms") 4 sp_law_terms (.cons (.var 1) (.cons (.var 2) (.cons (.blt .max (.cons (.int 1) (.cons (.bin .Mult (.var 2) (.var 4)) .nil))) (.cons (.var 4) .nil))))) .nil))) <|
  (.seq (.fors (.nm 6) (.seq (.tup (.cons (.var 5) (.cons (.bin .Add (.var 5) (.int 1)) (.cons (.bin .Add (.int 1) (.call (Str.ofString "_law_number") 2 sp_law_number (.cons (.var 0) (.cons (.var 5) .nil)))) (.cons (.int 1) (.cons (.blt .sum (.cons (.call (Str.ofString "_law_terms") 4 sp_law_terms (.cons (.var 1) (.cons (.var 2) (.cons (.var 3) (.cons (.var 4) .nil))))) .nil)) .nil)))))))
    (.seq (.ifs (.cmp .Lt (.var 6) (.int 1))
      (.seq (.asg (.nm 6) (.int 1)) <|
      .nil)
      .nil) <|
    (.seq (.asg (.nm 7) (.call (Str.ofString "least_room") 4 sp_least_room (.cons (.var 1) (.cons (.var 2) (.cons (.var 4) (.cons (.var 6) .nil)))))) <|
    (.seq (.ifs (.cmp .Lt (.var 5) (.var 6))
      (.seq (.ifs (.cmp .IsNot (.var 7) .non)
        (.seq (.ret (.bl false)) <|
        .nil)
        .nil) <|
      .nil)
      (.seq (.ifs (.or (.cons (.not (.tv (.call (Str.ofString "_law_whole") 1 sp_law_whole (.cons (.var 7) .nil)))) (.cons (.cmp .Lt (.var 7) (.int 1)) (.one (.cmp .Lt (.blt .sum (.cons (.call (Str.ofString "_law_terms") 4 sp_law_terms (.cons (.var 1) (.cons (.var 2) (.cons (.var 7) (.cons (.var 4) .nil))))) .nil)) (.var 6))))))
        (.seq (.ret (.bl false)) <|
        .nil)
        .nil) <|
      (.seq (.ifs (.and (.cons (.cmp .Gt (.var 7) (.int 1)) (.one (.cmp .GtE (.blt .sum (.cons (.call (Str.ofString "_law_terms") 4 sp_law_terms (.cons (.var 1) (.cons (.var 2) (.cons (.bin .Sub (.var 7) (.int 1)) (.cons (.var 4) .nil))))) .nil)) (.var 6)))))
        (.seq (.ret (.bl false)) <|
        .nil)
        .nil) <|
      .nil))) <|
    .nil)))) <|
  (.seq (.ret (.bl true)) <|
  .nil)))))
theorem m_law_least_right : Meets 8 5 (wpS b_law_least_right) sp_law_least_right := by
  intro xs M Q E h
  unfold sp_law_least_right at h
  split at h
  · rename_i p m' h r a
    obtain ⟨m, ⟨hP, rfl, hm, hh, hr, ha⟩, hq⟩ := h
    refine ⟨rfl, ?_⟩
    show wpS b_law_least_right _ _ [some (.ref p), some (.int m), some (.int h), some (.int r), some (.int a), none, none, none] M
    unfold b_law_least_right
    have hm3 : m ≤ 300 := by omega
    have hmul : mulOk h a := .inl (.inl ⟨by have := hh.1; omega, by have := hh.2; omega⟩)
    refine asg_any (Post := fun v M' => v = .int (fP 0 m h r r) ∧ Fg M M') (fun Q hQ => ?_) ?_
    · try walk_at "z"
      refine ⟨m, ⟨rfl, hm3, hh⟩, fun q hq1 => ?_⟩
      show bltP _ _ _ _
      rw [f_suml lget_mu, tms_sum0]
      exact hQ _ _ ⟨rfl, fg_mu Fg.refl hq1 nohid_l⟩
    rintro _ M1 ⟨rfl, fg1⟩
    refine seq_post (Post := fun τ N => ∃ u5 u6 u7 : Option PV, τ = [some (.ref p), some (.int m), some (.int h), some (.int r), some (.int a), u5, u6, u7] ∧ Fg M N) (fun nx' hnx => ?_) ?_
    · refine fors_any (Post := fun xs M' => Fg M M' ∧ ∀ x ∈ xs, ∃ k : Int, x = .int k) (fun Q hQ => ?_) ?_
      · have hb := fP_249 (m := m) (h := h) (r := r) (a := r) hm3 (by omega) (by omega) hr.2 (by decide)
        try walk_at "z"
        refine ⟨⟨hP.fg fg1, hb.1, hb.2⟩, fun y _ _ => ?_⟩
        try walk_at "z"
        refine ⟨m, ⟨rfl, hm3, hh⟩, fun q hq1 => ?_⟩
        show bltP _ _ _ _
        rw [f_suml lget_mu]
        try walk_at "z"
        refine ⟨by decide, hQ _ _ ⟨fg_new fg1 hq1 nohid_l, fun x hx => ?_⟩⟩
        simp only [List.mem_cons, List.not_mem_nil, or_false] at hx
        rcases hx with rfl | rfl | rfl | rfl | rfl <;> exact ⟨_, rfl⟩
      · rintro xs M2 ⟨fg2, hxs⟩
        refine for_by (fun pre post τ N => ∃ u6 u7 : Option PV, τ = [some (.ref p), some (.int m), some (.int h), some (.int r), some (.int a), some (.int (fP 0 m h r r)), u6, u7] ∧ Fg M N ∧ ∀ x ∈ post, ∃ k : Int, x = .int k) (fun _ _ _ _ _ => trivial) ?_ ?_ _ [] _ _ ⟨none, none, rfl, fg2, hxs⟩
        · rintro pre τ N ⟨u6, u7, rfl, fg, _⟩
          exact hnx _ _ ⟨_, _, _, rfl, fg⟩
        · rintro pre x post τ N k ⟨u6, u7, rfl, fg, hx⟩ hk
          obtain ⟨s0, rfl⟩ := hx x List.mem_cons_self
          have hk' : ∀ u6 u7 N', Fg M N' → k [some (.ref p), some (.int m), some (.int h), some (.int r), some (.int a), some (.int (fP 0 m h r r)), u6, u7] N' := fun u6 u7 N' fg' => k_of hk ⟨_, _, rfl, fg', fun x hx' => hx x (List.mem_cons_of_mem _ hx')⟩
          rw [g_nm]
          refine seq_post (Post := fun τ N' => N' = N ∧ ∃ s : Int, τ = [some (.ref p), some (.int m), some (.int h), some (.int r), some (.int a), some (.int (fP 0 m h r r)), some (.int s), u7]) (fun nx2 hnx2 => ?_) ?_
          · try walk_at "z"
            by_cases c : s0 < 1
            · rw [if_pos c]; exact hnx2 _ _ ⟨rfl, _, rfl⟩
            · rw [if_neg c]; exact hnx2 _ _ ⟨rfl, _, rfl⟩
          rintro _ _ ⟨rfl, s, rfl⟩
          rename_i N
          try walk_at "z"
          refine ⟨m, ⟨rfl, hm3, hh, hr.1⟩, fun c => ?_, fun c t h1 h2 h3 h4 => ?_⟩
          · try walk_at "z"
            rw [if_pos c, c_isn_non]
            try walk_at "z"
            exact hk' _ _ _ fg
          · try walk_at "z"
            rw [if_neg (Int.not_lt.mpr c)]
            rw [whole_int, tru_bl, if_neg (by decide), if_neg (show ¬ t < 1 by omega)]
            refine ⟨m, ⟨rfl, hm3, hh⟩, fun q hq1 => ?_⟩
            show bltP _ _ _ _
            rw [f_suml lget_mu, tms_sum0]
            try walk_at "z"
            rw [if_neg (Int.not_lt.mpr h3)]
            have fg3 := fg_new (o := .lst ((tms m h r t).map PV.int)) fg hq1 nohid_l
            by_cases c2 : 1 < t
            · rw [if_pos c2]
              refine ⟨m, ⟨rfl, hm3, hh⟩, fun q2 hq2 => ?_⟩
              show bltP _ _ _ _
              rw [f_suml lget_mu, tms_sum0]
              try walk_at "z"
              have h4 : t = 1 ∨ fP 0 m h r (t - 1) < s := h4
              rw [if_neg (show ¬ s ≤ fP 0 m h r (t - 1) by omega)]
              exact hk' _ _ _ (fg_new fg3 hq2 nohid_l)
            · rw [if_neg c2]
              exact hk' _ _ _ fg3
    rintro _ M3 ⟨u5, u6, u7, rfl, fg3⟩
    generalize hT : max 1 (h * a) = T
    have hT1 : 1 ≤ T := by omega
    have hT2 : T ≤ 2 ^ 100 := by
      have : h * a ≤ 1000 * 2 ^ 60 := Int.mul_le_mul hh.2 ha.2 (by omega) (by omega)
      omega
    refine asg_any (Post := fun v M' => v = .int (fP 0 m h T a) ∧ Fg M M') (fun Q hQ => ?_) ?_
    · try walk_at "z"
      refine ⟨hmul, ?_⟩
      rw [hT]
      refine ⟨m, ⟨rfl, hm3, hh⟩, fun q hq1 => ?_⟩
      show bltP _ _ _ _
      rw [f_suml lget_mu, tms_sum0]
      exact hQ _ _ ⟨rfl, fg_new fg3 hq1 nohid_l⟩
    rintro _ M4 ⟨rfl, fg4⟩
    refine seq_post (Post := fun τ N => Fg M N) (fun nx' hnx => ?_) ?_
    · refine fors_any (Post := fun xs M' => Fg M M' ∧ ∀ x ∈ xs, ∃ k : Int, x = .int k) (fun Q hQ => ?_) ?_
      · have hb := fP_249 (m := m) (h := h) (r := T) (a := a) hm3 (by omega) (by omega) hT2 (Int.le_refl _)
        try walk_at "z"
        refine ⟨⟨hP.fg fg4, hb.1, hb.2⟩, fun y _ _ => ?_⟩
        try walk_at "z"
        refine ⟨m, ⟨rfl, hm3, hh⟩, fun q hq1 => ?_⟩
        show bltP _ _ _ _
        rw [f_suml lget_mu]
        try walk_at "z"
        refine ⟨by decide, hQ _ _ ⟨fg_new fg4 hq1 nohid_l, fun x hx => ?_⟩⟩
        simp only [List.mem_cons, List.not_mem_nil, or_false] at hx
        rcases hx with rfl | rfl | rfl | rfl | rfl <;> exact ⟨_, rfl⟩
      · rintro xs M2 ⟨fg2, hxs⟩
        refine for_by (fun pre post τ N => ∃ u6 u7 : Option PV, τ = [some (.ref p), some (.int m), some (.int h), some (.int r), some (.int a), some (.int (fP 0 m h T a)), u6, u7] ∧ Fg M N ∧ ∀ x ∈ post, ∃ k : Int, x = .int k) (fun _ _ _ _ _ => trivial) ?_ ?_ _ [] _ _ ⟨u6, u7, rfl, fg2, hxs⟩
        · rintro pre τ N ⟨u6, u7, rfl, fg, _⟩
          exact hnx _ _ fg
        · rintro pre x post τ N k ⟨u6, u7, rfl, fg, hx⟩ hk
          obtain ⟨s0, rfl⟩ := hx x List.mem_cons_self
          have hk' : ∀ u6 u7 N', Fg M N' → k [some (.ref p), some (.int m), some (.int h), some (.int r), some (.int a), some (.int (fP 0 m h T a)), u6, u7] N' := fun u6 u7 N' fg' => k_of hk ⟨_, _, rfl, fg', fun x hx' => hx x (List.mem_cons_of_mem _ hx')⟩
          rw [g_nm]
          refine seq_post (Post := fun τ N' => N' = N ∧ ∃ s : Int, τ = [some (.ref p), some (.int m), some (.int h), some (.int r), some (.int a), some (.int (fP 0 m h T a)), some (.int s), u7]) (fun nx2 hnx2 => ?_) ?_
          · try walk_at "z"
            by_cases c : s0 < 1
            · rw [if_pos c]; exact hnx2 _ _ ⟨rfl, _, rfl⟩
            · rw [if_neg c]; exact hnx2 _ _ ⟨rfl, _, rfl⟩
          rintro _ _ ⟨rfl, s, rfl⟩
          rename_i N
          try walk_at "z"
          refine ⟨m, ⟨rfl, hm3, hh⟩, ?_⟩
          rw [hT]
          refine ⟨fun c => ?_, fun c t h1 h2 h3 h4 => ?_⟩
          · try walk_at "z"
            rw [if_pos c, c_isn_non]
            try walk_at "z"
            exact hk' _ _ _ fg
          · try walk_at "z"
            rw [if_neg (Int.not_lt.mpr c)]
            rw [whole_int, tru_bl, if_neg (by decide), if_neg (show ¬ t < 1 by omega)]
            refine ⟨m, ⟨rfl, hm3, hh⟩, fun q hq1 => ?_⟩
            show bltP _ _ _ _
            rw [f_suml lget_mu, tms_sum0]
            try walk_at "z"
            rw [if_neg (Int.not_lt.mpr h3)]
            have fg3 := fg_new (o := .lst ((tms m h t a).map PV.int)) fg hq1 nohid_l
            by_cases c2 : 1 < t
            · rw [if_pos c2]
              refine ⟨m, ⟨rfl, hm3, hh⟩, fun q2 hq2 => ?_⟩
              show bltP _ _ _ _
              rw [f_suml lget_mu, tms_sum0]
              try walk_at "z"
              have h4 : t = 1 ∨ fP 0 m h (t - 1) a < s := h4
              rw [if_neg (show ¬ s ≤ fP 0 m h (t - 1) a by omega)]
              exact hk' _ _ _ (fg_new fg3 hq2 nohid_l)
            · rw [if_neg c2]
              exact hk' _ _ _ fg3
    rintro τ N fg
    try walk_at "z"
    exact dropQ_of fg hq
  · exact h.elim
/-! ### corners -/
def Bd (a : Nat) (x : Int) : Prop := x.natAbs < 2 ^ a
theorem Bd.up {a b : Nat} {x : Int} (h : Bd a x) (hl : a ≤ b) : Bd b x := Nat.lt_of_lt_of_le h (Nat.pow_le_pow_right (by decide) hl)
theorem Bd.neg {a : Nat} {x : Int} (h : Bd a x) : Bd a (-x) := by unfold Bd; rw [Int.natAbs_neg]; exact h
theorem Bd.mul {a b : Nat} {x y : Int} (h : Bd a x) (h' : Bd b y) : Bd (a + b) (x * y) := L2.wide_lt h h'
theorem Bd.add {a : Nat} {x y : Int} (h : Bd a x) (h' : Bd a y) : Bd (a + 1) (x + y) := by
  unfold Bd at *
  rw [Nat.pow_succ]
  omega
theorem Bd.div {a : Nat} {x : Int} (h : Bd a x) (g : Nat) : Bd a (x / (g : Int)) := by
  unfold Bd at *
  exact Nat.lt_of_le_of_lt (Int.natAbs_ediv_le_natAbs x g) h
theorem Bd.of {a : Nat} {x : Int} (h0 : 0 ≤ x) (h : x < ((2 ^ a : Nat) : Int)) : Bd a x := by unfold Bd; omega
theorem Bd.log {a : Nat} {x : Int} (h : Bd a x) (ha : 0 < a) : x.natAbs.log2 < a := PySem.Flt.log2_lt_of ha h
theorem Bd.bits {a : Nat} {x : Int} (h : Bd a x) : Builtin.Int.intBits x ≤ a := by
  unfold Builtin.Int.intBits
  split
  · omega
  · rename_i hz
    have := (Nat.log2_lt (by simpa using hz)).mpr h
    omega
theorem Bd.bitsA {a : Nat} {x : Int} (h : Bd a x) : Builtin.Int.intBits (x.natAbs : Int) ≤ a := by
  have h : Bd a (x.natAbs : Int) := by unfold Bd at *; rw [Int.natAbs_natCast]; exact h
  exact h.bits
theorem Bd.mulOk {a b : Nat} {x y : Int} (h : Bd a x) (h' : Bd b y) (hl : a + b ≤ 100000) : mulOk x y := by
  refine .inr ?_
  have h1 := h.bits
  have h2 := h'.bits
  unfold L2.CMulX
  omega
/-! the lowest terms -/
def gd (t b : Int) : Nat := Nat.gcd t.natAbs b.natAbs
def low (t b : Int) : Int × Int := if b < 0 then (t / (-(gd t b : Int)), b / (-(gd t b : Int))) else (t / (gd t b : Int), b / (gd t b : Int))
theorem gd_pos {t b : Int} (h : b ≠ 0) : 0 < gd t b := Nat.gcd_pos_of_pos_right _ (by omega)
theorem gd_le {t b : Int} (h : b ≠ 0) : gd t b ≤ b.natAbs := Nat.le_of_dvd (by omega) (Nat.gcd_dvd_right _ _)
theorem gd_top {t b : Int} : (gd t b : Int) ∣ t := Int.natAbs_dvd_natAbs.mp (by rw [Int.natAbs_natCast]; exact Nat.gcd_dvd_left _ _)
theorem gd_bot {t b : Int} : (gd t b : Int) ∣ b := Int.natAbs_dvd_natAbs.mp (by rw [Int.natAbs_natCast]; exact Nat.gcd_dvd_right _ _)
theorem gd_bd {a : Nat} {t b : Int} (hb : b ≠ 0) (h : Bd a b) : Bd a (gd t b : Int) := by
  unfold Bd at *
  rw [Int.natAbs_natCast]
  exact Nat.lt_of_le_of_lt (gd_le hb) h
theorem low_pos {t b : Int} (h : ¬ b < 0) : low t b = (t / (gd t b : Int), b / (gd t b : Int)) := if_neg h
theorem low_neg {t b : Int} (h : b < 0) : low t b = ((-t) / (gd (-t) (-b) : Int), (-b) / (gd (-t) (-b) : Int)) := by
  unfold low
  rw [if_pos h]
  have e : gd (-t) (-b) = gd t b := by unfold gd; rw [Int.natAbs_neg, Int.natAbs_neg]
  rw [e, Int.ediv_neg, Int.ediv_neg, Int.neg_ediv_of_dvd gd_top, Int.neg_ediv_of_dvd gd_bot]
theorem low_bd {a : Nat} {t b : Int} (h : Bd a t) (h' : Bd a b) : Bd a (low t b).1 ∧ Bd a (low t b).2 := by
  unfold low
  split
  · rw [Int.ediv_neg, Int.ediv_neg]
    exact ⟨(h.div _).neg, (h'.div _).neg⟩
  · exact ⟨h.div _, h'.div _⟩
theorem div_pos {b : Int} {g : Nat} (hb : 0 < b) (hg : 0 < g) (hd : (g : Int) ∣ b) : 0 < b / (g : Int) := by
  obtain ⟨c, rfl⟩ := hd
  rw [Int.mul_ediv_cancel_left _ (by omega)]
  rcases Int.lt_trichotomy c 0 with h | h | h
  · have := Int.mul_neg_of_pos_of_neg (show (0 : Int) < g by omega) h; omega
  · subst h; simp at hb
  · exact h
theorem low_bot {t b : Int} (h : b ≠ 0) : 0 < (low t b).2 := by
  by_cases c : b < 0
  · rw [low_neg c]
    exact div_pos (by omega) (gd_pos (by omega)) gd_bot
  · rw [low_pos c]
    exact div_pos (by omega) (gd_pos h) gd_bot
theorem dv {a : Nat} {t b x : Int} (hb : b ≠ 0) (h : Bd a b) (h0 : 0 < a) (h9 : a ≤ 9000) : divOk x (gd t b : Int) := .inr <| .inl ⟨by have := gd_pos (t := t) hb; omega, Nat.lt_of_lt_of_le ((gd_bd hb h).log h0) h9⟩
theorem dvn {a : Nat} {t b x : Int} (hb : b ≠ 0) (h : Bd a b) (h0 : 0 < a) (h9 : a ≤ 9000) (hd : (gd t b : Int) ∣ x) : divOk x (-(gd t b : Int)) := .inr <| .inr ⟨⟨by have := gd_pos (t := t) hb; omega, Nat.lt_of_lt_of_le ((gd_bd hb h).neg.log h0) h9⟩, Int.neg_dvd.mpr hd⟩
abbrev frP (x : Int × Int) : PV := .tup [.int x.1, .int x.2]
def Lim (t b : Int) : Prop := Bd 1000 t ∧ b ≠ 0 ∧ Bd 1000 b
def sp_fraction_of_two : ZSp := fun xs M Q E => match xs with
  | [.int t, .int b] => Lim t b ∧ Q (.tup [.int (t / (gd t b : Int)), .int (b / (gd t b : Int))]) M
  | _ => False
/-! fraction_of_two : 0 top, 1 bottom, 2 shared -/
def N_fraction_of_two : List Str := [Str.ofString "top", Str.ofString "bottom", Str.ofString "shared"]
def ps_fraction_of_two : List Str := [Str.ofString "top", Str.ofString "bottom"]
def b_fraction_of_two : ZS :=
  (.seq (.asg (.nm 2) (.call (Str.ofString "gcd") 2 sp_gcd (.cons (.var 0) (.cons (.var 1) .nil)))) <|
  (.seq (.ret (.tup (.cons (.bin .FloorDiv (.var 0) (.var 2)) (.cons (.bin .FloorDiv (.var 1) (.var 2)) .nil)))) <|
  .nil))
theorem m_fraction_of_two : Meets 3 2 (wpS b_fraction_of_two) sp_fraction_of_two := by
  intro xs M Q E h
  unfold sp_fraction_of_two at h
  split at h
  · rename_i t b
    obtain ⟨⟨h1, h2, h3⟩, hq⟩ := h
    refine ⟨rfl, ?_⟩
    show wpS b_fraction_of_two _ _ [some (.int t), some (.int b), none] M
    unfold b_fraction_of_two
    try walk_at "z"
    unfold sp_gcd
    show bin2 .FloorDiv (.int t) (.int (gd t b : Int)) M _
    try walk_at "z"
    exact ⟨dv h2 h3 (by decide) (by decide), dv h2 h3 (by decide) (by decide), by decide, dropQ_id hq⟩
  · exact h.elim
def sp_fraction_of : ZSp := fun xs M Q E => match xs with
  | [.int t, .int b] => Lim t b ∧ Q (frP (low t b)) M
  | _ => False
/-! fraction_of : 0 top, 1 bottom -/
def N_fraction_of : List Str := [Str.ofString "top", Str.ofString "bottom"]
def ps_fraction_of : List Str := [Str.ofString "top", Str.ofString "bottom"]
def b_fraction_of : ZS :=
  (.seq (.ifs (.cmp .Lt (.var 1) (.int 0))
    (.seq (.ret (.call (Str.ofString "fraction_of_two") 2 sp_fraction_of_two (.cons (.un .USub (.var 0)) (.cons (.un .USub (.var 1)) .nil)))) <|
    .nil)
    .nil) <|
  (.seq (.ret (.call (Str.ofString "fraction_of_two") 2 sp_fraction_of_two (.cons (.var 0) (.cons (.var 1) .nil)))) <|
  .nil))
theorem m_fraction_of : Meets 2 2 (wpS b_fraction_of) sp_fraction_of := by
  intro xs M Q E h
  unfold sp_fraction_of at h
  split at h
  · rename_i t b
    obtain ⟨⟨h1, h2, h3⟩, hq⟩ := h
    refine ⟨rfl, ?_⟩
    show wpS b_fraction_of _ _ [some (.int t), some (.int b)] M
    unfold b_fraction_of
    try walk_at "z"
    by_cases c : b < 0
    · rw [if_pos c]
      rw [low_neg c] at hq
      exact ⟨⟨h1.neg, by omega, h3.neg⟩, dropQ_id hq⟩
    · rw [if_neg c]
      rw [low_pos c] at hq
      exact ⟨⟨h1, h2, h3⟩, dropQ_id hq⟩
  · exact h.elim
def eu : Nat → Nat → Nat → Prop
  | 0, _, b => b = 0
  | m + 1, a, b => b = 0 ∨ eu m b (a % b)
theorem eu_zero : ∀ {m a : Nat}, eu m a 0
  | 0, _ => rfl
  | _ + 1, _ => .inl rfl
theorem eu_up : ∀ {m a b : Nat}, eu m a b → eu (m + 1) a b
  | 0, _, _, h => .inl h
  | _ + 1, _, _, h => h.elim .inl fun h => .inr (eu_up h)
theorem eu_ups {m n a b : Nat} (h : eu m a b) (hl : m ≤ n) : eu n a b := by
  induction hl with
  | refl => exact h
  | step _ ih => exact eu_up ih
theorem eu_of : ∀ {k a b : Nat}, b < 2 ^ k → eu (2 * k) a b
  | 0, a, b, h => by
    have : b = 0 := by simpa using h
    exact this
  | k + 1, a, b, h => by
    show b = 0 ∨ (a % b = 0 ∨ eu (2 * k) (a % b) (b % (a % b)))
    by_cases hb : b = 0
    · exact .inl hb
    · refine .inr ?_
      by_cases hr : a % b = 0
      · exact .inl hr
      · refine .inr (eu_of ?_)
        have h1 : a % b < b := Nat.mod_lt _ (by omega)
        have h2 : b % (a % b) < a % b := Nat.mod_lt _ (by omega)
        have h3 : b % (a % b) ≤ b - (a % b) := by
          rw [Nat.mod_eq_sub_mod (by omega)]
          exact Nat.mod_le _ _
        rw [Nat.pow_succ] at h
        omega
def sp_law_lowest : ZSp := fun xs M Q E => match xs with
  | [.int t, .int b] => ∃ x y : Nat, (t = (x : Nat) ∧ b = (y : Nat) ∧ 1 ≤ y ∧ Bd 1000 (x : Int) ∧ Bd 1000 (y : Int)) ∧ Q (frP (low (x : Int) (y : Int))) M
  | _ => False
/-! _law_lowest : 0 top, 1 bottom, 2 one, 3 other, 4 turn -/
def N_law_lowest : List Str := [Str.ofString "top", Str.ofString "bottom", Str.ofString "one", Str.ofString "other", Str.ofString "turn"]
def ps_law_lowest : List Str := [Str.ofString "top", Str.ofString "bottom"]
def b_law_lowest : ZS :=
  (.seq (.asg (.nm 2) (.var 0)) <|
  (.seq (.asg (.nm 3) (.var 1)) <|
  (.seq (.fors (.nm 4) (.rng1 (.bin .Add (.bin .Mult (.int 2) (.bin .Add (.mth .bits (.var 2) .nil) (.mth .bits (.var 3) .nil))) (.int 4)))
    (.seq (.ifs (.cmp .Eq (.var 3) (.int 0))
      (.seq .brk <|
      .nil)
      .nil) <|
    (.seq (.par 2 3 (.var 3) (.bin .Mod (.blt .int (.cons (.var 2) .nil)) (.var 3))) <|
    .nil))) <|
  (.seq (.ret (.tup (.cons (.bin .FloorDiv (.var 0) (.var 2)) (.cons (.bin .FloorDiv (.var 1) (.var 2)) .nil)))) <|
  .nil))))
theorem m_law_lowest : Meets 5 2 (wpS b_law_lowest) sp_law_lowest := by
  intro xs M Q E h
  unfold sp_law_lowest at h
  split at h
  · rename_i t b
    obtain ⟨x0, y0, ⟨rfl, rfl, hy1, h1, h2⟩, hq⟩ := h
    refine ⟨rfl, ?_⟩
    show wpS b_law_lowest _ _ [some (.int x0), some (.int y0), none, none, none] M
    unfold b_law_lowest
    have b1 := h1.bits
    have b2 := h2.bits
    have hyn : (y0 : Int) ≠ 0 := by omega
    rw [low_pos (show ¬ (y0 : Int) < 0 by omega)] at hq
    have d1 := fun v : Int => dv (t := (x0 : Int)) (x := v) hyn h2 (by decide) (by decide)
    have fin : ∀ (u : Option PV) (y : Int), wpS (.seq (.ret (.tup (.cons (.bin .FloorDiv (.var 0) (.var 2)) (.cons (.bin .FloorDiv (.var 1) (.var 2)) .nil)))) .nil) { bk := fun _ _ => False, ct := fun _ _ => False, rt := dropQ Q, ex := fun _ => E } (fun _ => dropQ Q .non) [some (.int x0), some (.int y0), some (.int (gd (x0 : Int) (y0 : Int) : Int)), some (.int y), u] M := fun u y => by
      try walk_at "z"
      exact ⟨d1 _, d1 _, by decide, dropQ_id hq⟩
    try walk_at "z"
    have b3 : y0 < 2 ^ Builtin.Int.intBits (y0 : Int) := by
      have := intBits_le_iff.mp (Nat.le_refl (Builtin.Int.intBits (y0 : Int)))
      rwa [Int.natAbs_natCast] at this
    generalize Builtin.Int.intBits (x0 : Int) = k1 at *
    generalize Builtin.Int.intBits (y0 : Int) = k2 at *
    refine ⟨.inl (.inl (by omega)), by unfold smallI; omega, ?_⟩
    have he : eu ((2 * ((k1 : Int) + k2) + 4).toNat) x0 y0 := eu_ups (eu_of b3) (by omega)
    refine for_rng (fun i τ M' => ∃ (x y : Nat) (u : Option PV), τ = [some (.int x0), some (.int y0), some (.int x), some (.int y), u] ∧ M' = M ∧ Nat.gcd x y = gd (x0 : Int) (y0 : Int) ∧ eu ((2 * ((k1 : Int) + k2) + 4).toNat - i) x y) _ 0 (fun _ => trivial) ?_ ?_ _ _ ⟨_, _, none, rfl, rfl, rfl, by rw [Nat.sub_zero]; exact he⟩
    · rintro τ M' ⟨x, y, u, rfl, rfl, hg, hz⟩
      rw [Nat.sub_self] at hz
      have hz : y = 0 := hz
      subst hz
      rw [Nat.gcd_zero_right] at hg
      subst hg
      exact fin none 0
    · rintro i τ M' k hi ⟨x, y, u, rfl, rfl, hg, hz⟩ hk
      try walk_at "z"
      by_cases c : (y : Int) = 0
      · rw [if_pos c]
        have hy : y = 0 := by omega
        subst hy
        rw [Nat.gcd_zero_right] at hg
        subst hg
        exact fin none 0
      · rw [if_neg c]
        have hy : 0 < y := by omega
        obtain ⟨m, em⟩ : ∃ m, (2 * ((k1 : Int) + k2) + 4).toNat - i = m + 1 := ⟨_, (Nat.succ_pred_eq_of_pos (by omega)).symm⟩
        rw [em] at hz
        refine ⟨by omega, k_of hk ⟨y, x % y, some (.int (0 + (i : Int))), ?_, rfl, ?_, ?_⟩⟩
        · rw [Int.natCast_emod]
        · rw [← hg, Nat.gcd_comm x y, Nat.gcd_rec y x, Nat.gcd_comm]
        · rw [show (2 * ((k1 : Int) + k2) + 4).toNat - (i + 1) = m by omega]
          rcases hz with h | h
          · omega
          · exact h
  · exact h.elim
def cSz (m : Nat) (h : Int) (f : Nat) : Int := fP 0 m h (h - (f : Int)) 1
def cEl (m : Nat) (h : Int) (f : Nat) : PV := .tup [frP (low (h - (f : Int)) (cSz m h f)), frP (low 1 (cSz m h f))]
def COk (m : Nat) (h : Int) : Prop := 1 ≤ m ∧ (m : Int) ≤ h ∧ h ≤ 250
theorem cSz_bd {m f : Nat} {h : Int} (c : COk m h) (hf : f < m) : 1 ≤ cSz m h f ∧ cSz m h f ≤ 62500 := by
  obtain ⟨h1, h2, h3⟩ := c
  have hb := fP_bd (l := 0) (m := m) (h := h) (r := h - (f : Int)) (a := 1) (by omega) (by decide)
  have h4 : ((m - 0 : Nat) : Int) * (h - (f : Int)) ≤ 250 * 250 := Int.mul_le_mul (by omega) (by omega) (by omega) (by decide)
  refine ⟨?_, by unfold cSz; omega⟩
  unfold cSz
  rw [← tms_sum0]
  unfold tms
  obtain ⟨k, rfl⟩ : ∃ k, m = k + 1 := ⟨m - 1, by omega⟩
  rw [List.range_succ_eq_map, List.map_cons, List.sum_cons, List.map_map]
  have := sum_bd (f := (fun p : Nat => trm h (h - (f : Int)) 1 (p : Int)) ∘ Nat.succ) (c := h - (f : Int)) (by omega) (l := List.range k) fun i _ => ⟨trm_nn (by omega) (by decide), by show trm _ _ _ _ ≤ _; unfold trm; omega⟩
  have h5 : 1 ≤ trm h (h - (f : Int)) 1 ((0 : Nat) : Int) := by unfold trm; omega
  omega
theorem bd_small {x : Int} (h0 : 0 ≤ x) (h : x ≤ 1000000) : Bd 1000 x := (Bd.of (a := 20) h0 (by omega)).up (by decide)
theorem low_one {s : Int} (h : 1 ≤ s) : low 1 s = (1, s) := by
  rw [low_pos (by omega)]
  have e : gd 1 s = 1 := Nat.gcd_one_left _
  rw [e]
  simp
def sp_corners_of : ZSp := fun xs M Q E => match xs with
  | [.int m', .int h] => ∃ m : Nat, (m' = (m : Nat) ∧ COk m h) ∧ Q (.tup ((List.range m).reverse.map (cEl m h))) M
  | _ => False
/-! corners_of : 0 many, 1 helpers, 2 corners, 3 fallen, 4 size -/
def N_corners_of : List Str := [Str.ofString "many", Str.ofString "helpers", Str.ofString "corners", Str.ofString "fallen", Str.ofString "size"]
def ps_corners_of : List Str := [Str.ofString "many", Str.ofString "helpers"]
def b_corners_of : ZS :=
  (.seq (.asg (.nm 2) (.lst .nil)) <|
  (.seq (.fors (.nm 3) (.it1 .revr1 (.var 0))
    (.seq (.asg (.nm 4) (.call (Str.ofString "formula_size") 4 sp_formula_size (.cons (.var 0) (.cons (.var 1) (.cons (.bin .Sub (.var 1) (.var 3)) (.cons (.int 1) .nil)))))) <|
    (.seq (.expr (.mth .append (.var 2) (.cons (.tup (.cons (.call (Str.ofString "fraction_of") 2 sp_fraction_of (.cons (.bin .Sub (.var 1) (.var 3)) (.cons (.var 4) .nil))) (.cons (.call (Str.ofString "fraction_of") 2 sp_fraction_of (.cons (.int 1) (.cons (.var 4) .nil))) .nil))) .nil))) <|
    .nil))) <|
  (.seq (.ret (.blt .tuple (.cons (.var 2) .nil))) <|
  .nil)))
theorem m_corners_of : Meets 5 2 (wpS b_corners_of) sp_corners_of := by
  intro xs M Q E h
  unfold sp_corners_of at h
  split at h
  · rename_i m' h
    obtain ⟨m, ⟨rfl, hc⟩, hq⟩ := h
    have hc' := hc
    obtain ⟨h1, h2, h3⟩ := hc
    refine ⟨rfl, ?_⟩
    show wpS b_corners_of _ _ [some (.int m), some (.int h), none, none, none] M
    unfold b_corners_of
    try walk_at "z"
    refine ⟨Nat.zero_le _, fun a ha => ?_⟩
    try walk_at "z"
    rw [revr1_i]
    refine ⟨⟨by omega, by omega, by omega, by omega⟩, ?_⟩
    rw [show ((m : Int) - 0).toNat = m by omega, show (rngL 0 m).reverse = (List.range m).reverse.map (fun f : Nat => PV.int (0 + (f : Int))) by unfold rngL; rw [List.map_reverse]]
    refine for_map (fun f : Nat => PV.int (0 + (f : Int))) _ (fun pre τ N => ∃ u3 u4 : Option PV, τ = [some (.int m), some (.int h), some (.ref a), u3, u4] ∧ Fg M N ∧ N a = some (.lst (pre.map (cEl m h)))) (fun _ _ _ _ _ _ => trivial) ?_ ?_ _ _ ⟨none, none, rfl, fg_mu Fg.refl ha nohid_l, mu_same⟩
    · rintro τ N ⟨u3, u4, rfl, fg, hN⟩
      try walk_at "z"
      rw [f_tupl (lget_of hN)]
      exact dropQ_of fg hq
    · rintro pre f post τ N k ep ⟨u3, u4, rfl, fg, hN⟩ hk
      have hf : f < m := by
        have := mid_mem ep
        rw [List.mem_reverse] at this
        exact List.mem_range.mp this
      have hpl := mid_len ep
      rw [List.length_reverse, List.length_range] at hpl
      have hs := cSz_bd hc' hf
      try walk_at "z"
      rw [Int.zero_add]
      refine ⟨m, ⟨rfl, by omega, by omega, by omega⟩, ?_⟩
      try walk_at "z"
      have l1 : Lim (h - (f : Int)) (cSz m h f) := ⟨bd_small (by omega) (by omega), by omega, bd_small (by omega) (by omega)⟩
      have l2 : Lim 1 (cSz m h f) := ⟨bd_small (by omega) (by omega), by omega, bd_small (by omega) (by omega)⟩
      refine ⟨by rw [m_lst (.inl rfl) (lget_of hN)]; trivial, l1, l2, by decide, ?_⟩
      show mthP _ _ _ _ _
      rw [m_app hN]
      refine ⟨by rw [List.length_map]; unfold sizeLine; omega, ?_⟩
      refine k_of hk ⟨_, _, rfl, fg_mu fg ha nohid_l, ?_⟩
      rw [mu_same, List.map_append]
      rfl
  · exact h.elim
theorem rev_range (m : Nat) : (List.range m).reverse = (List.range m).map fun t => m - 1 - t := by
  refine List.ext_getElem (by simp) fun i h1 h2 => ?_
  rw [List.getElem_reverse, List.getElem_map, List.getElem_range, List.getElem_range, List.length_range]
def sp_law_corners_right : ZSp := fun xs M Q E => match xs with
  | [.int m', .int h] => ∃ m : Nat, (m' = (m : Nat) ∧ COk m h) ∧ Q (.bl true) M
  | _ => False
/-! _law_corners_right : 0 many, 1 helpers, 2 due, 3 turn, 4 room, 5 size -/
def N_law_corners_right : List Str := [Str.ofString "many", Str.ofString "helpers", Str.ofString "due", Str.ofString "turn", Str.ofString "room", Str.ofString "size"]
def ps_law_corners_right : List Str := [Str.ofString "many", Str.ofString "helpers"]
def b_law_corners_right : ZS :=
  (.seq (.asg (.nm 2) (.lst .nil)) <|
  (.seq (.fors (.nm 3) (.rng1 (.var 0))
    (.seq (.asg (.nm 4) (.bin .Sub (.var 1) (.bin .Sub (.bin .Sub (.var 0) (.int 1)) (.var 3)))) <|
    (.seq (.asg (.nm 5) (.blt .sum (.cons (.call (Str.ofString "_law_terms") 4 sp_law_terms (.cons (.var 0) (.cons (.var 1) (.cons (.var 4) (.cons (.int 1) .nil))))) .nil))) <|
    (.seq (.expr (.mth .append (.var 2) (.cons (.tup (.cons (.call (Str.ofString "_law_lowest") 2 sp_law_lowest (.cons (.var 4) (.cons (.var 5) .nil))) (.cons (.tup (.cons (.int 1) (.cons (.var 5) .nil))) .nil))) .nil))) <|
    .nil)))) <|
  (.seq (.ret (.call (Str.ofString "_law_same") 2 sp_law_same (.cons (.call (Str.ofString "corners_of") 2 sp_corners_of (.cons (.var 0) (.cons (.var 1) .nil))) (.cons (.blt .tuple (.cons (.var 2) .nil)) .nil)))) <|
  .nil)))
theorem m_law_corners_right : Meets 6 2 (wpS b_law_corners_right) sp_law_corners_right := by
  intro xs M Q E h
  unfold sp_law_corners_right at h
  split at h
  · rename_i m' h
    obtain ⟨m, ⟨rfl, hc⟩, hq⟩ := h
    have hc' := hc
    obtain ⟨h1, h2, h3⟩ := hc
    refine ⟨rfl, ?_⟩
    show wpS b_law_corners_right _ _ [some (.int m), some (.int h), none, none, none, none] M
    unfold b_law_corners_right
    try walk_at "z"
    refine ⟨Nat.zero_le _, fun a ha => ?_⟩
    try walk_at "z"
    refine ⟨⟨by omega, by omega⟩, ?_⟩
    rw [Int.toNat_natCast]
    refine for_rng (fun i τ N => ∃ u3 u4 u5 : Option PV, τ = [some (.int m), some (.int h), some (.ref a), u3, u4, u5] ∧ Fg M N ∧ N a = some (.lst ((List.range i).map fun t => cEl m h (m - 1 - t)))) _ 0 (fun _ => trivial) ?_ ?_ _ _ ⟨none, none, none, rfl, fg_mu Fg.refl ha nohid_l, mu_same⟩
    · rintro τ N ⟨u3, u4, u5, rfl, fg, hN⟩
      try walk_at "z"
      refine ⟨m, ⟨rfl, hc'⟩, ?_⟩
      try walk_at "z"
      rw [f_tupl (lget_of hN)]
      refine ⟨⟨?_, ?_, ?_⟩, dropQ_of fg hq⟩
      · rw [rev_range, List.map_map]; rfl
      · refine .inl (plains_all.mpr fun y hy => ?_)
        obtain ⟨f, _, rfl⟩ := List.mem_map.mp hy
        rfl
      · have := psizes_map (f := cEl m h) (c := 8) (xs := (List.range m).reverse) fun _ _ => by simp [cEl, psize, psizes]
        rw [List.length_reverse, List.length_range] at this
        show 1 + psizes _ ≤ _
        omega
    · rintro i τ N k hi ⟨u3, u4, u5, rfl, fg, hN⟩ hk
      have e : h - ((m : Int) - 1 - (i : Int)) = h - ((m - 1 - i : Nat) : Int) := by omega
      have hs := cSz_bd hc' (show m - 1 - i < m by omega)
      try walk_at "z"
      rw [Int.zero_add, e]
      refine ⟨m, ⟨rfl, by omega, by omega, by omega⟩, fun q hq1 => ?_⟩
      show bltP _ _ _ _
      rw [f_suml lget_mu, tms_sum0]
      have hN1 := at_new hq1 hN (o' := .lst ((tms m h (h - ((m - 1 - i : Nat) : Int)) 1).map PV.int))
      have fg1 := fg_new (o := .lst ((tms m h (h - ((m - 1 - i : Nat) : Int)) 1).map PV.int)) fg hq1 nohid_l
      generalize mu N q (.lst ((tms m h (h - ((m - 1 - i : Nat) : Int)) 1).map PV.int)) = N1 at hN1 fg1
      have es : fP 0 m h (h - ((m - 1 - i : Nat) : Int)) 1 = cSz m h (m - 1 - i) := rfl
      rw [es]
      try walk_at "z"
      refine ⟨by rw [m_lst (.inl rfl) (lget_of hN1)]; trivial, (h - ((m - 1 - i : Nat) : Int)).toNat, (cSz m h (m - 1 - i)).toNat, ⟨by omega, by omega, by omega, bd_small (by omega) (by omega), bd_small (by omega) (by omega)⟩, ?_⟩
      rw [show (((h - ((m - 1 - i : Nat) : Int)).toNat : Nat) : Int) = h - ((m - 1 - i : Nat) : Int) by omega, show (((cSz m h (m - 1 - i)).toNat : Nat) : Int) = cSz m h (m - 1 - i) by omega]
      try walk_at "z"
      refine ⟨by decide, by decide, ?_⟩
      rw [m_app hN1]
      refine ⟨by rw [List.length_map, List.length_range]; unfold sizeLine; omega, ?_⟩
      refine k_of hk ⟨_, _, _, rfl, fg_mu fg1 ha nohid_l, ?_⟩
      rw [mu_same, List.range_succ, List.map_append, List.map_cons, List.map_nil]
      unfold cEl
      rw [low_one hs.1]
  · exact h.elim
def sp_law : ZSp := fun xs M Q E => match xs with
  | [.fl xs] => (∃ ns : List Int, xs = ns.map PV.int) ∧ ∀ M' : Mp, Q (.bl true) M'
  | _ => False
/-! law : 0 script, 1 pool, 2 boxes, 3 room, 4 amount, 5 wide, 6 helpers, 7 most, 8 many -/
def N_law : List Str := [Str.ofString "script", Str.ofString "pool", Str.ofString "boxes", Str.ofString "room", Str.ofString "amount", Str.ofString "wide", Str.ofString "helpers", Str.ofString "most", Str.ofString "many"]
def ps_law : List Str := [Str.ofString "script"]
def b_law : ZS :=
  (.seq (.asg (.nm 1) (.call (Str.ofString "_law_pool") 1 sp_law_pool (.cons (.var 0) .nil))) <|
  (.seq (.asg (.nm 2) (.ix (.lst (.cons (.int 1) (.cons (.int 2) (.cons (.int 3) (.cons (.int 4) (.cons (.int 5) (.cons (.int 3) (.cons (.int 6) (.cons (.int 7) (.cons (.int 8) .nil)))))))))) (.call (Str.ofString "_law_draw") 2 sp_law_draw (.cons (.var 1) (.cons (.int 9) .nil))))) <|
  (.seq (.asg (.nm 3) (.bin .Add (.int 1) (.call (Str.ofString "_law_number") 2 sp_law_number (.cons (.var 1) (.cons (.ix (.lst (.cons (.int 3) (.cons (.int 9) (.cons (.bin .Sub (.bin .Pow (.int 10) (.int 12)) (.int 1)) .nil)))) (.call (Str.ofString "_law_draw") 2 sp_law_draw (.cons (.var 1) (.cons (.int 3) .nil)))) .nil))))) <|
  (.seq (.asg (.nm 4) (.bin .Add (.int 1) (.call (Str.ofString "_law_number") 2 sp_law_number (.cons (.var 1) (.cons (.ix (.lst (.cons (.int 3) (.cons (.int 9) (.cons (.bin .Sub (.bin .Pow (.int 10) (.int 12)) (.int 1)) .nil)))) (.call (Str.ofString "_law_draw") 2 sp_law_draw (.cons (.var 1) (.cons (.int 3) .nil)))) .nil))))) <|
  (.seq (.ifs (.not (.tv (.call (Str.ofString "_law_book_right") 5 sp_law_book_right (.cons (.var 2) (.cons (.bin .Add (.int 1) (.call (Str.ofString "_law_draw") 2 sp_law_draw (.cons (.var 1) (.cons (.var 2) .nil)))) (.cons (.call (Str.ofString "_law_draw") 2 sp_law_draw (.cons (.var 1) (.cons (.var 2) .nil))) (.cons (.var 3) (.cons (.var 4) .nil))))))))
    (.seq (.ret (.bl false)) <|
    .nil)
    .nil) <|
  (.seq (.fors (.tup 2 (.cons (.nm 5) (.cons (.nm 6) .nil))) (.seq (.tup (.cons (.tup (.cons (.int 9) (.cons (.int 0) .nil))) (.cons (.tup (.cons (.bin .Add (.int 9) (.call (Str.ofString "_law_draw") 2 sp_law_draw (.cons (.var 1) (.cons (.int 3) .nil)))) (.cons (.call (Str.ofString "_law_draw") 2 sp_law_draw (.cons (.var 1) (.cons (.int 3) .nil))) .nil))) (.cons (.tup (.cons (.int 8) (.cons (.int 2) .nil))) (.cons (.tup (.cons (.int 2) (.cons (.int 1) .nil))) (.cons (.tup (.cons (.int 4) (.cons (.int 2) .nil))) .nil)))))))
    (.seq (.ifs (.not (.tv (.call (Str.ofString "_law_book_right") 5 sp_law_book_right (.cons (.var 5) (.cons (.bin .Add (.int 1) (.call (Str.ofString "_law_draw") 2 sp_law_draw (.cons (.var 1) (.cons (.int 2) .nil)))) (.cons (.var 6) (.cons (.var 3) (.cons (.var 4) .nil))))))))
      (.seq (.ret (.bl false)) <|
      .nil)
      .nil) <|
    .nil)) <|
  (.seq (.asg (.nm 7) (.ix (.lst (.cons (.int 12) (.cons (.int 200) .nil))) (.bin .FloorDiv (.call (Str.ofString "_law_draw") 2 sp_law_draw (.cons (.var 1) (.cons (.int 5) .nil))) (.int 4)))) <|
  (.seq (.asg (.nm 8) (.bin .Add (.int 1) (.call (Str.ofString "_law_number") 2 sp_law_number (.cons (.var 1) (.cons (.bin .Sub (.var 7) (.int 1)) .nil))))) <|
  (.seq (.asg (.nm 6) (.call (Str.ofString "_law_number") 2 sp_law_number (.cons (.var 1) (.cons (.var 7) .nil)))) <|
  (.seq (.ifs (.not (.tv (.call (Str.ofString "_law_formulas_right") 5 sp_law_formulas_right (.cons (.var 1) (.cons (.var 8) (.cons (.var 6) (.cons (.var 3) (.cons (.var 4) .nil))))))))
    (.seq (.ret (.bl false)) <|
    .nil)
    .nil) <|
  (.seq (.ifs (.or (.cons (.cmp .Gt (.bin .Mult (.var 3) (.var 8)) (.bin .Mult (.int 9) (.bin .Pow (.int 10) (.int 12)))) (.one (.cmp .Gt (.bin .Mult (.bin .Mult (.var 4) (.var 6)) (.var 8)) (.bin .Mult (.int 9) (.bin .Pow (.int 10) (.int 12)))))))
    (.seq (.asg (.nm 3) (.bin .Add (.int 1) (.bin .Mod (.blt .int (.cons (.var 3) .nil)) (.bin .Pow (.int 10) (.int 9))))) <|
    (.seq (.asg (.nm 4) (.bin .Add (.int 1) (.bin .Mod (.blt .int (.cons (.var 4) .nil)) (.bin .Pow (.int 10) (.int 6))))) <|
    .nil))
    .nil) <|
  (.seq (.ifs (.not (.tv (.call (Str.ofString "_law_least_right") 5 sp_law_least_right (.cons (.var 1) (.cons (.var 8) (.cons (.var 6) (.cons (.var 3) (.cons (.var 4) .nil))))))))
    (.seq (.ret (.bl false)) <|
    .nil)
    .nil) <|
  (.seq (.asg (.nm 8) (.blt .min (.cons (.var 8) (.cons (.blt .max (.cons (.int 1) (.cons (.var 6) .nil))) .nil)))) <|
  (.seq (.ret (.vand (.cons (.call (Str.ofString "_law_corners_right") 2 sp_law_corners_right (.cons (.var 8) (.cons (.blt .max (.cons (.int 1) (.cons (.var 6) .nil))) .nil))) (.one (.call (Str.ofString "_law_corners_right") 2 sp_law_corners_right (.cons (.int 2) (.cons (.bin .Add (.int 2) (.call (Str.ofString "_law_draw") 2 sp_law_draw (.cons (.var 1) (.cons (.int 9) .nil)))) .nil))))))) <|
  .nil))))))))))))))
theorem m_law : Meets 9 1 (wpS b_law) sp_law := by
  intro xs M Q E h
  unfold sp_law at h
  split at h
  · rename_i a
    obtain ⟨hns, hq⟩ := h
    refine ⟨rfl, ?_⟩
    show wpS b_law _ _ [some (.fl a), none, none, none, none, none, none, none, none] M
    unfold b_law
    have c12 : L2.CPow 10 12 := ⟨by decide, by decide, by decide⟩
    have c9 : L2.CPow 10 9 := ⟨by decide, by decide, by decide⟩
    have c6 : L2.CPow 10 6 := ⟨by decide, by decide, by decide⟩
    refine asg_any (Post := fun v N => ∃ p, v = .ref p ∧ Pool N p) (fun Q hQ => ?_) ?_
    · try walk_at "z"
      refine ⟨hns, fun p g hp hg hne => hQ _ _ ⟨p, rfl, g, mu_same⟩⟩
    rintro _ N ⟨p, rfl, hP⟩
    clear hns
    refine asg_any (Post := fun v N' => Pool N' p ∧ ∃ b : Nat, v = natP b ∧ 1 ≤ b ∧ b ≤ 8) (fun Q hQ => ?_) ?_
    · try walk_at "z"
      refine ⟨Nat.le_of_ble_eq_true rfl, fun q hq1 => ?_⟩
      have hP1 := hP.fg (fg_new (o := .lst [PV.int 1, .int 2, .int 3, .int 4, .int 5, .int 3, .int 6, .int 7, .int 8]) Fg.refl hq1 nohid_l)
      refine ⟨⟨hP1, by decide⟩, fun r h0 h1 => ?_⟩
      obtain ⟨b, hb, hb1, hb2⟩ : ∃ b : Nat, L2.atI [PV.int 1, .int 2, .int 3, .int 4, .int 5, .int 3, .int 6, .int 7, .int 8] r = some (natP b) ∧ 1 ≤ b ∧ b ≤ 8 := by
        have : r = 0 ∨ r = 1 ∨ r = 2 ∨ r = 3 ∨ r = 4 ∨ r = 5 ∨ r = 6 ∨ r = 7 ∨ r = 8 := by omega
        rcases this with rfl | rfl | rfl | rfl | rfl | rfl | rfl | rfl | rfl
        · exact ⟨1, rfl, by decide, by decide⟩
        · exact ⟨2, rfl, by decide, by decide⟩
        · exact ⟨3, rfl, by decide, by decide⟩
        · exact ⟨4, rfl, by decide, by decide⟩
        · exact ⟨5, rfl, by decide, by decide⟩
        · exact ⟨3, rfl, by decide, by decide⟩
        · exact ⟨6, rfl, by decide, by decide⟩
        · exact ⟨7, rfl, by decide, by decide⟩
        · exact ⟨8, rfl, by decide, by decide⟩
      rw [x_ref lget_mu hb]
      exact hQ _ _ ⟨hP1, b, rfl, hb1, hb2⟩
    rintro _ N1 ⟨hP1, b, rfl, hb1, hb2⟩
    have pick : ∀ r : Int, 0 ≤ r → (r = 0 ∨ r < 3) → ∃ v : Int, L2.atI [PV.int 3, .int 9, PV.int (10 ^ Int.toNat 12 - 1)] r = some (.int v) ∧ 0 ≤ v ∧ v ≤ 10 ^ 12 := fun r h0 h1 => by
      have : r = 0 ∨ r = 1 ∨ r = 2 := by omega
      rcases this with rfl | rfl | rfl
      · exact ⟨3, rfl, by decide, by decide⟩
      · exact ⟨9, rfl, by decide, by decide⟩
      · exact ⟨10 ^ Int.toNat 12 - 1, rfl, by decide, by decide⟩
    refine asg_any (Post := fun v N' => Pool N' p ∧ ∃ r : Int, v = .int r ∧ 1 ≤ r ∧ r ≤ 2 ^ 60) (fun Q hQ => ?_) ?_
    · try walk_at "z"
      refine ⟨c12, Nat.le_of_ble_eq_true rfl, fun q hq1 => ?_⟩
      have hP2 := hP1.fg (fg_new (o := .lst [PV.int 3, .int 9, PV.int (10 ^ Int.toNat 12 - 1)]) Fg.refl hq1 nohid_l)
      refine ⟨⟨hP2, by decide⟩, fun r h0 h1 => ?_⟩
      obtain ⟨v, hv, hv0, hv1⟩ := pick r h0 h1
      rw [x_ref lget_mu hv]
      try walk_at "z"
      exact ⟨⟨hP2, hv0, by omega⟩, fun y hy0 hy1 => hQ _ _ ⟨hP2, _, rfl, by omega, by omega⟩⟩
    rintro _ N2 ⟨hP2, room, rfl, hr⟩
    refine asg_any (Post := fun v N' => Pool N' p ∧ ∃ r : Int, v = .int r ∧ 1 ≤ r ∧ r ≤ 2 ^ 60) (fun Q hQ => ?_) ?_
    · try walk_at "z"
      refine ⟨c12, Nat.le_of_ble_eq_true rfl, fun q hq1 => ?_⟩
      have hP3 := hP2.fg (fg_new (o := .lst [PV.int 3, .int 9, PV.int (10 ^ Int.toNat 12 - 1)]) Fg.refl hq1 nohid_l)
      refine ⟨⟨hP3, by decide⟩, fun r h0 h1 => ?_⟩
      obtain ⟨v, hv, hv0, hv1⟩ := pick r h0 h1
      rw [x_ref lget_mu hv]
      try walk_at "z"
      exact ⟨⟨hP3, hv0, by omega⟩, fun y hy0 hy1 => hQ _ _ ⟨hP3, _, rfl, by omega, by omega⟩⟩
    rintro _ N3 ⟨hP3, am, rfl, ha⟩
    refine ifs_no (fun Q hQ => ?_) ?_
    · try walk_at "z"
      refine ⟨⟨hP3, by omega⟩, fun m _ _ => ?_⟩
      try walk_at "z"
      refine ⟨⟨hP3, by omega⟩, fun hh h0 h1 => ?_⟩
      try walk_at "z"
      refine ⟨b, hh.toNat, ⟨rfl, by omega, by omega, by omega, by omega⟩, ?_⟩
      try walk_at "z"
      exact hQ
    refine seq_post (Post := fun τ N' => ∃ u5 u6 : Option PV, τ = [some (.fl a), some (.ref p), some (natP b), some (.int room), some (.int am), u5, u6, none, none] ∧ N' = N3) (fun nx' hnx => ?_) ?_
    · refine fors_any (Post := fun xs M' => M' = N3 ∧ ∀ x ∈ xs, ∃ n hh : Nat, x = .tup [natP n, natP hh] ∧ n ≤ 20 ∧ hh ≤ 20 ∧ (n ≤ 8 → hh < n)) (fun Q hQ => ?_) ?_
      · try walk_at "z"
        refine ⟨by decide, ⟨hP3, by decide⟩, fun x h0 h1 => ?_⟩
        try walk_at "z"
        refine ⟨⟨hP3, by decide⟩, fun y h2 h3 => ?_⟩
        obtain ⟨x, rfl⟩ := Int.eq_ofNat_of_zero_le h0
        obtain ⟨y, rfl⟩ := Int.eq_ofNat_of_zero_le h2
        try walk_at "z"
        repeat refine ⟨by decide, ?_⟩
        refine hQ _ _ ⟨rfl, fun z hz => ?_⟩
        simp only [List.mem_cons, List.not_mem_nil, or_false] at hz
        rcases hz with rfl | rfl | rfl | rfl | rfl
        · exact ⟨9, 0, rfl, by decide, by decide, by decide⟩
        · exact ⟨9 + x, y, rfl, by omega, by omega, by omega⟩
        · exact ⟨8, 2, rfl, by decide, by decide, by decide⟩
        · exact ⟨2, 1, rfl, by decide, by decide, by decide⟩
        · exact ⟨4, 2, rfl, by decide, by decide, by decide⟩
      · rintro xs _ ⟨rfl, hxs⟩
        rename_i N3
        refine for_by (fun pre post τ N => ∃ u5 u6 : Option PV, τ = [some (.fl a), some (.ref p), some (natP b), some (.int room), some (.int am), u5, u6, none, none] ∧ N = N3 ∧ ∀ x ∈ post, ∃ n hh : Nat, x = .tup [natP n, natP hh] ∧ n ≤ 20 ∧ hh ≤ 20 ∧ (n ≤ 8 → hh < n)) (fun _ _ _ _ _ => trivial) ?_ ?_ _ [] _ _ ⟨none, none, rfl, rfl, hxs⟩
        · rintro pre τ N ⟨u5, u6, rfl, rfl, _⟩
          exact hnx _ _ ⟨_, _, rfl, rfl⟩
        · rintro pre x post τ N k ⟨u5, u6, rfl, rfl, hx⟩ hk
          obtain ⟨n, hh, rfl, h1, h2, h3⟩ := hx x List.mem_cons_self
          try walk_at "z"
          refine ⟨⟨hP3, by decide⟩, fun m _ _ => ?_⟩
          try walk_at "z"
          refine ⟨n, hh, ⟨rfl, h1, rfl, h2, h3⟩, ?_⟩
          try walk_at "z"
          exact k_of hk ⟨_, _, rfl, rfl, fun x hx' => hx x (List.mem_cons_of_mem _ hx')⟩
    rintro _ _ ⟨u5, u6, rfl, rfl⟩
    rename_i N3
    refine asg_any (Post := fun v N' => Pool N' p ∧ ∃ r : Int, v = .int r ∧ 12 ≤ r ∧ r ≤ 200) (fun Q hQ => ?_) ?_
    · try walk_at "z"
      refine ⟨Nat.le_of_ble_eq_true rfl, fun q hq1 => ?_⟩
      have hP4 := hP3.fg (fg_new (o := .lst [PV.int 12, .int 200]) Fg.refl hq1 nohid_l)
      refine ⟨⟨hP4, by decide⟩, fun r h0 h1 => ?_⟩
      try walk_at "z"
      refine ⟨.inl ⟨by decide, by decide⟩, ?_⟩
      have : r / 4 = 0 ∨ r / 4 = 1 := by omega
      rcases this with e | e
      · rw [e, x_ref lget_mu (show L2.atI [PV.int 12, .int 200] 0 = some (.int 12) from rfl)]
        exact hQ _ _ ⟨hP4, _, rfl, by decide, by decide⟩
      · rw [e, x_ref lget_mu (show L2.atI [PV.int 12, .int 200] 1 = some (.int 200) from rfl)]
        exact hQ _ _ ⟨hP4, _, rfl, by decide, by decide⟩
    rintro _ N4 ⟨hP4, most, rfl, hm0, hm1⟩
    refine asg_any (Post := fun v N' => N' = N4 ∧ ∃ m : Nat, v = natP m ∧ 1 ≤ m ∧ m ≤ 200) (fun Q hQ => ?_) ?_
    · try walk_at "z"
      refine ⟨⟨hP4, by omega, by omega⟩, fun y h0 h1 => ?_⟩
      obtain ⟨y, rfl⟩ := Int.eq_ofNat_of_zero_le h0
      exact hQ _ _ ⟨rfl, 1 + y, by show PV.int _ = .int _; congr 1, by omega, by omega⟩
    rintro _ _ ⟨rfl, m, rfl, hm2, hm3⟩
    rename_i N4
    refine asg_any (Post := fun v N' => N' = N4 ∧ ∃ h : Int, v = .int h ∧ 0 ≤ h ∧ h ≤ 200) (fun Q hQ => ?_) ?_
    · try walk_at "z"
      exact ⟨⟨hP4, by omega, by omega⟩, fun y h0 h1 => hQ _ _ ⟨rfl, y, rfl, h0, by omega⟩⟩
    rintro _ _ ⟨rfl, h, rfl, hh0, hh1⟩
    rename_i N4
    have hh : HOk h := ⟨hh0, by omega⟩
    refine ifs_no (fun Q hQ => ?_) ?_
    · try walk_at "z"
      refine ⟨m, ⟨hP4, rfl, by omega, hh, by omega, by omega⟩, ?_⟩
      try walk_at "z"
      exact hQ
    refine seq_post (Post := fun τ N' => N' = N4 ∧ ∃ r a' : Int, τ = [some (.fl a), some (.ref p), some (natP b), some (.int r), some (.int a'), u5, some (.int h), some (.int most), some (natP m)] ∧ (1 ≤ r ∧ r ≤ 2 ^ 60) ∧ (1 ≤ a' ∧ a' ≤ 2 ^ 60)) (fun nx' hnx => ?_) ?_
    · have e9 : (10 : Int) ^ Int.toNat 9 = 1000000000 := by decide
      have e6 : (10 : Int) ^ Int.toNat 6 = 1000000 := by decide
      have yes : nx' [some (.fl a), some (.ref p), some (natP b), some (.int (1 + room % 10 ^ Int.toNat 9)), some (.int (1 + am % 10 ^ Int.toNat 6)), u5, some (.int h), some (.int most), some (natP m)] N4 := by
        refine hnx _ _ ⟨rfl, _, _, rfl, ?_, ?_⟩
        · rw [e9]; omega
        · rw [e6]; omega
      have no := hnx [some (.fl a), some (.ref p), some (natP b), some (.int room), some (.int am), u5, some (.int h), some (.int most), some (natP m)] N4 ⟨rfl, _, _, rfl, hr, ha⟩
      try walk_at "z"
      refine ⟨.inl (.inl ⟨by omega, by omega⟩), c12, .inl (.inl ⟨by decide, by decide⟩), ?_⟩
      have y2 : L2.CPow 10 9 ∧ 0 < (10 : Int) ^ Int.toNat 9 ∧ L2.CPow 10 6 ∧ 0 < (10 : Int) ^ Int.toNat 6 ∧ nx' [some (.fl a), some (.ref p), some (natP b), some (.int (1 + room % 10 ^ Int.toNat 9)), some (.int (1 + am % 10 ^ Int.toNat 6)), u5, some (.int h), some (.int most), some (natP m)] N4 := ⟨c9, by decide, c6, by decide, yes⟩
      split
      · exact y2
      · refine ⟨.inl (.inl ⟨by omega, by omega⟩), .inl (.inr ⟨by omega, by omega⟩), c12, .inl (.inl ⟨by decide, by decide⟩), ?_⟩
        split
        · exact y2
        · exact no
    rintro _ _ ⟨rfl, room2, am2, rfl, hr2, ha2⟩
    rename_i N4
    refine ifs_no (fun Q hQ => ?_) ?_
    · try walk_at "z"
      refine ⟨m, ⟨hP4, rfl, by omega, hh, hr2, ha2⟩, ?_⟩
      try walk_at "z"
      exact hQ
    try walk_at "z"
    refine ⟨(min (m : Int) (max 1 h)).toNat, ⟨by omega, by omega, by omega, by omega⟩, ?_⟩
    try walk_at "z"
    refine ⟨⟨hP4, by decide⟩, fun x h0 h1 => ?_⟩
    try walk_at "z"
    exact ⟨2, ⟨rfl, by decide, by omega, by omega⟩, dropQ_id (hq _)⟩
  · exact h.elim

def N_law_pool : List Str := [Str.ofString "script", Str.ofString "great", Str.ofString "mixed", Str.ofString "cell", Str.ofString "number"]
def ps_law_pool : List Str := [Str.ofString "script"]
def b_law_pool : ZS := bPool 670820 120011
def N_law_draw : List Str := [Str.ofString "pool", Str.ofString "many", Str.ofString "great", Str.ofString "number", Str.ofString "mixed"]
def ps_law_draw : List Str := [Str.ofString "pool", Str.ofString "many"]
def b_law_draw : ZS := bDraw 330000000000000060 18 310019
def topS (i : Nat) : Stmt := PySem.Challenge.pw_everrebuilt_k10_symmetric_books_and_form.main.body.getD i (.Pass ⟨0, 0, 0, 0⟩)
def bn : List Str := [Str.ofString "ValueError", Str.ofString "bool", Str.ofString "enumerate", Str.ofString "int", Str.ofString "isinstance", Str.ofString "len", Str.ofString "max", Str.ofString "min", Str.ofString "range", Str.ofString "reversed", Str.ofString "str", Str.ofString "sum", Str.ofString "tuple"]
abbrev s_members_of : Stmt := topS 8
theorem d_members_of : DefOk s_members_of N_members_of ps_members_of bn b_members_of := defB_of (by decide +kernel)
theorem bi_members_of (kV doc pm : Value) (an : Option Addr) (cdv ct : Value) (us : List Value) (hl : us.length = ps_members_of.length) : bindArgs (PySem.W.fnOf (Str.ofString "members_of") (Str.ofString "members_of") (L2.defArgs s_members_of) (L2.defBody s_members_of) (L2.defScope s_members_of) .none kV doc pm an cdv ct) ⟨us, []⟩ = pure (ps_members_of.zip us) := match us, hl with
  | [_], _ => rfl
abbrev s_members_count : Stmt := topS 9
theorem d_members_count : DefOk s_members_count N_members_count ps_members_count bn b_members_count := defB_of (by decide +kernel)
theorem bi_members_count (kV doc pm : Value) (an : Option Addr) (cdv ct : Value) (us : List Value) (hl : us.length = ps_members_count.length) : bindArgs (PySem.W.fnOf (Str.ofString "members_count") (Str.ofString "members_count") (L2.defArgs s_members_count) (L2.defBody s_members_count) (L2.defScope s_members_count) .none kV doc pm an cdv ct) ⟨us, []⟩ = pure (ps_members_count.zip us) := match us, hl with
  | [_], _ => rfl
abbrev s_lots_of : Stmt := topS 10
theorem d_lots_of : DefOk s_lots_of N_lots_of ps_lots_of bn b_lots_of := defB_of (by decide +kernel)
theorem bi_lots_of (kV doc pm : Value) (an : Option Addr) (cdv ct : Value) (us : List Value) (hl : us.length = ps_lots_of.length) : bindArgs (PySem.W.fnOf (Str.ofString "lots_of") (Str.ofString "lots_of") (L2.defArgs s_lots_of) (L2.defBody s_lots_of) (L2.defScope s_lots_of) .none kV doc pm an cdv ct) ⟨us, []⟩ = pure (ps_lots_of.zip us) := match us, hl with
  | [_, _], _ => rfl
abbrev s_box_names : Stmt := topS 12
theorem d_box_names : DefOk s_box_names N_box_names ps_box_names bn b_box_names := defB_of (by decide +kernel)
theorem bi_box_names (kV doc pm : Value) (an : Option Addr) (cdv ct : Value) (us : List Value) (hl : us.length = ps_box_names.length) : bindArgs (PySem.W.fnOf (Str.ofString "box_names") (Str.ofString "box_names") (L2.defArgs s_box_names) (L2.defBody s_box_names) (L2.defScope s_box_names) .none kV doc pm an cdv ct) ⟨us, []⟩ = pure (ps_box_names.zip us) := match us, hl with
  | [_], _ => rfl
abbrev s_put_standing : Stmt := topS 13
theorem d_put_standing : DefOk s_put_standing N_put_standing ps_put_standing bn b_put_standing := defB_of (by decide +kernel)
theorem bi_put_standing (kV doc pm : Value) (an : Option Addr) (cdv ct : Value) (us : List Value) (hl : us.length = ps_put_standing.length) : bindArgs (PySem.W.fnOf (Str.ofString "put_standing") (Str.ofString "put_standing") (L2.defArgs s_put_standing) (L2.defBody s_put_standing) (L2.defScope s_put_standing) .none kV doc pm an cdv ct) ⟨us, []⟩ = pure (ps_put_standing.zip us) := match us, hl with
  | [_, _], _ => rfl
abbrev s_made_step : Stmt := topS 14
theorem d_made_step : DefOk s_made_step N_made_step ps_made_step bn b_made_step := defB_of (by decide +kernel)
theorem bi_made_step (kV doc pm : Value) (an : Option Addr) (cdv ct : Value) (us : List Value) (hl : us.length = ps_made_step.length) : bindArgs (PySem.W.fnOf (Str.ofString "made_step") (Str.ofString "made_step") (L2.defArgs s_made_step) (L2.defBody s_made_step) (L2.defScope s_made_step) .none kV doc pm an cdv ct) ⟨us, []⟩ = pure (ps_made_step.zip us) := match us, hl with
  | [_, _, _, _], _ => rfl
abbrev s_helper_steps : Stmt := topS 15
theorem d_helper_steps : DefOk s_helper_steps N_helper_steps ps_helper_steps bn b_helper_steps := defB_of (by decide +kernel)
theorem bi_helper_steps (kV doc pm : Value) (an : Option Addr) (cdv ct : Value) (us : List Value) (hl : us.length = ps_helper_steps.length) : bindArgs (PySem.W.fnOf (Str.ofString "helper_steps") (Str.ofString "helper_steps") (L2.defArgs s_helper_steps) (L2.defBody s_helper_steps) (L2.defScope s_helper_steps) .none kV doc pm an cdv ct) ⟨us, []⟩ = pure (ps_helper_steps.zip us) := match us, hl with
  | [_, _, _, _, _], _ => rfl
abbrev s_symmetric_book : Stmt := topS 16
theorem d_symmetric_book : DefOk s_symmetric_book N_symmetric_book ps_symmetric_book bn b_symmetric_book := defB_of (by decide +kernel)
theorem bi_symmetric_book (kV doc pm : Value) (an : Option Addr) (cdv ct : Value) (us : List Value) (hl : us.length = ps_symmetric_book.length) : bindArgs (PySem.W.fnOf (Str.ofString "symmetric_book") (Str.ofString "symmetric_book") (L2.defArgs s_symmetric_book) (L2.defBody s_symmetric_book) (L2.defScope s_symmetric_book) .none kV doc pm an cdv ct) ⟨us, []⟩ = pure (ps_symmetric_book.zip us) := match us, hl with
  | [_, _, _, _, _], _ => rfl
abbrev s_choosing_book : Stmt := topS 17
theorem d_choosing_book : DefOk s_choosing_book N_choosing_book ps_choosing_book bn b_choosing_book := defB_of (by decide +kernel)
theorem bi_choosing_book (kV doc pm : Value) (an : Option Addr) (cdv ct : Value) (us : List Value) (hl : us.length = ps_choosing_book.length) : bindArgs (PySem.W.fnOf (Str.ofString "choosing_book") (Str.ofString "choosing_book") (L2.defArgs s_choosing_book) (L2.defBody s_choosing_book) (L2.defScope s_choosing_book) .none kV doc pm an cdv ct) ⟨us, []⟩ = pure (ps_choosing_book.zip us) := match us, hl with
  | [_, _, _, _, _], _ => rfl
abbrev s_formula_part : Stmt := topS 18
theorem d_formula_part : DefOk s_formula_part N_formula_part ps_formula_part bn b_formula_part := defB_of (by decide +kernel)
theorem bi_formula_part (kV doc pm : Value) (an : Option Addr) (cdv ct : Value) (us : List Value) (hl : us.length = ps_formula_part.length) : bindArgs (PySem.W.fnOf (Str.ofString "formula_part") (Str.ofString "formula_part") (L2.defArgs s_formula_part) (L2.defBody s_formula_part) (L2.defScope s_formula_part) .none kV doc pm an cdv ct) ⟨us, []⟩ = pure (ps_formula_part.zip us) := match us, hl with
  | [_, _, _, _, _], _ => rfl
abbrev s_formula_size : Stmt := topS 19
theorem d_formula_size : DefOk s_formula_size N_formula_size ps_formula_size bn b_formula_size := defB_of (by decide +kernel)
theorem bi_formula_size (kV doc pm : Value) (an : Option Addr) (cdv ct : Value) (us : List Value) (hl : us.length = ps_formula_size.length) : bindArgs (PySem.W.fnOf (Str.ofString "formula_size") (Str.ofString "formula_size") (L2.defArgs s_formula_size) (L2.defBody s_formula_size) (L2.defScope s_formula_size) .none kV doc pm an cdv ct) ⟨us, []⟩ = pure (ps_formula_size.zip us) := match us, hl with
  | [_, _, _, _], _ => rfl
abbrev s_formula_moves : Stmt := topS 20
theorem d_formula_moves : DefOk s_formula_moves N_formula_moves ps_formula_moves bn b_formula_moves := defB_of (by decide +kernel)
theorem bi_formula_moves (kV doc pm : Value) (an : Option Addr) (cdv ct : Value) (us : List Value) (hl : us.length = ps_formula_moves.length) : bindArgs (PySem.W.fnOf (Str.ofString "formula_moves") (Str.ofString "formula_moves") (L2.defArgs s_formula_moves) (L2.defBody s_formula_moves) (L2.defScope s_formula_moves) .none kV doc pm an cdv ct) ⟨us, []⟩ = pure (ps_formula_moves.zip us) := match us, hl with
  | [_, _, _, _, _], _ => rfl
abbrev s_copies_size : Stmt := topS 21
theorem d_copies_size : DefOk s_copies_size N_copies_size ps_copies_size bn b_copies_size := defB_of (by decide +kernel)
theorem bi_copies_size (kV doc pm : Value) (an : Option Addr) (cdv ct : Value) (us : List Value) (hl : us.length = ps_copies_size.length) : bindArgs (PySem.W.fnOf (Str.ofString "copies_size") (Str.ofString "copies_size") (L2.defArgs s_copies_size) (L2.defBody s_copies_size) (L2.defScope s_copies_size) .none kV doc pm an cdv ct) ⟨us, []⟩ = pure (ps_copies_size.zip us) := match us, hl with
  | [_, _, _], _ => rfl
abbrev s_fraction_of : Stmt := topS 23
theorem d_fraction_of : DefOk s_fraction_of N_fraction_of ps_fraction_of bn b_fraction_of := defB_of (by decide +kernel)
theorem bi_fraction_of (kV doc pm : Value) (an : Option Addr) (cdv ct : Value) (us : List Value) (hl : us.length = ps_fraction_of.length) : bindArgs (PySem.W.fnOf (Str.ofString "fraction_of") (Str.ofString "fraction_of") (L2.defArgs s_fraction_of) (L2.defBody s_fraction_of) (L2.defScope s_fraction_of) .none kV doc pm an cdv ct) ⟨us, []⟩ = pure (ps_fraction_of.zip us) := match us, hl with
  | [_, _], _ => rfl
abbrev s_fraction_of_two : Stmt := topS 24
theorem d_fraction_of_two : DefOk s_fraction_of_two N_fraction_of_two ps_fraction_of_two bn b_fraction_of_two := defB_of (by decide +kernel)
theorem bi_fraction_of_two (kV doc pm : Value) (an : Option Addr) (cdv ct : Value) (us : List Value) (hl : us.length = ps_fraction_of_two.length) : bindArgs (PySem.W.fnOf (Str.ofString "fraction_of_two") (Str.ofString "fraction_of_two") (L2.defArgs s_fraction_of_two) (L2.defBody s_fraction_of_two) (L2.defScope s_fraction_of_two) .none kV doc pm an cdv ct) ⟨us, []⟩ = pure (ps_fraction_of_two.zip us) := match us, hl with
  | [_, _], _ => rfl
abbrev s_corners_of : Stmt := topS 26
theorem d_corners_of : DefOk s_corners_of N_corners_of ps_corners_of bn b_corners_of := defB_of (by decide +kernel)
theorem bi_corners_of (kV doc pm : Value) (an : Option Addr) (cdv ct : Value) (us : List Value) (hl : us.length = ps_corners_of.length) : bindArgs (PySem.W.fnOf (Str.ofString "corners_of") (Str.ofString "corners_of") (L2.defArgs s_corners_of) (L2.defBody s_corners_of) (L2.defScope s_corners_of) .none kV doc pm an cdv ct) ⟨us, []⟩ = pure (ps_corners_of.zip us) := match us, hl with
  | [_, _], _ => rfl
abbrev s_least_help : Stmt := topS 27
theorem d_least_help : DefOk s_least_help N_least_help ps_least_help bn b_least_help := defB_of (by decide +kernel)
theorem bi_least_help (kV doc pm : Value) (an : Option Addr) (cdv ct : Value) (us : List Value) (hl : us.length = ps_least_help.length) : bindArgs (PySem.W.fnOf (Str.ofString "least_help") (Str.ofString "least_help") (L2.defArgs s_least_help) (L2.defBody s_least_help) (L2.defScope s_least_help) .none kV doc pm an cdv ct) ⟨us, []⟩ = pure (ps_least_help.zip us) := match us, hl with
  | [_, _, _, _], _ => rfl
abbrev s_least_room : Stmt := topS 28
theorem d_least_room : DefOk s_least_room N_least_room ps_least_room bn b_least_room := defB_of (by decide +kernel)
theorem bi_least_room (kV doc pm : Value) (an : Option Addr) (cdv ct : Value) (us : List Value) (hl : us.length = ps_least_room.length) : bindArgs (PySem.W.fnOf (Str.ofString "least_room") (Str.ofString "least_room") (L2.defArgs s_least_room) (L2.defBody s_least_room) (L2.defScope s_least_room) .none kV doc pm an cdv ct) ⟨us, []⟩ = pure (ps_least_room.zip us) := match us, hl with
  | [_, _, _, _], _ => rfl
abbrev s_law_pool : Stmt := topS 30
theorem d_law_pool : DefOk s_law_pool N_law_pool ps_law_pool bn b_law_pool := defB_of (by decide +kernel)
theorem bi_law_pool (kV doc pm : Value) (an : Option Addr) (cdv ct : Value) (us : List Value) (hl : us.length = ps_law_pool.length) : bindArgs (PySem.W.fnOf (Str.ofString "_law_pool") (Str.ofString "_law_pool") (L2.defArgs s_law_pool) (L2.defBody s_law_pool) (L2.defScope s_law_pool) .none kV doc pm an cdv ct) ⟨us, []⟩ = pure (ps_law_pool.zip us) := match us, hl with
  | [_], _ => rfl
abbrev s_law_draw : Stmt := topS 31
theorem d_law_draw : DefOk s_law_draw N_law_draw ps_law_draw bn b_law_draw := defB_of (by decide +kernel)
theorem bi_law_draw (kV doc pm : Value) (an : Option Addr) (cdv ct : Value) (us : List Value) (hl : us.length = ps_law_draw.length) : bindArgs (PySem.W.fnOf (Str.ofString "_law_draw") (Str.ofString "_law_draw") (L2.defArgs s_law_draw) (L2.defBody s_law_draw) (L2.defScope s_law_draw) .none kV doc pm an cdv ct) ⟨us, []⟩ = pure (ps_law_draw.zip us) := match us, hl with
  | [_, _], _ => rfl
abbrev s_law_number : Stmt := topS 32
theorem d_law_number : DefOk s_law_number N_law_number ps_law_number bn b_law_number := defB_of (by decide +kernel)
theorem bi_law_number (kV doc pm : Value) (an : Option Addr) (cdv ct : Value) (us : List Value) (hl : us.length = ps_law_number.length) : bindArgs (PySem.W.fnOf (Str.ofString "_law_number") (Str.ofString "_law_number") (L2.defArgs s_law_number) (L2.defBody s_law_number) (L2.defScope s_law_number) .none kV doc pm an cdv ct) ⟨us, []⟩ = pure (ps_law_number.zip us) := match us, hl with
  | [_, _], _ => rfl
abbrev s_law_whole : Stmt := topS 33
theorem d_law_whole : DefOk s_law_whole N_law_whole ps_law_whole bn b_law_whole := defB_of (by decide +kernel)
theorem bi_law_whole (kV doc pm : Value) (an : Option Addr) (cdv ct : Value) (us : List Value) (hl : us.length = ps_law_whole.length) : bindArgs (PySem.W.fnOf (Str.ofString "_law_whole") (Str.ofString "_law_whole") (L2.defArgs s_law_whole) (L2.defBody s_law_whole) (L2.defScope s_law_whole) .none kV doc pm an cdv ct) ⟨us, []⟩ = pure (ps_law_whole.zip us) := match us, hl with
  | [_], _ => rfl
abbrev s_law_same : Stmt := topS 34
theorem d_law_same : DefOk s_law_same N_law_same ps_law_same bn b_law_same := defB_of (by decide +kernel)
theorem bi_law_same (kV doc pm : Value) (an : Option Addr) (cdv ct : Value) (us : List Value) (hl : us.length = ps_law_same.length) : bindArgs (PySem.W.fnOf (Str.ofString "_law_same") (Str.ofString "_law_same") (L2.defArgs s_law_same) (L2.defBody s_law_same) (L2.defScope s_law_same) .none kV doc pm an cdv ct) ⟨us, []⟩ = pure (ps_law_same.zip us) := match us, hl with
  | [_, _], _ => rfl
abbrev s_law_lots : Stmt := topS 35
theorem d_law_lots : DefOk s_law_lots N_law_lots ps_law_lots bn b_law_lots := defB_of (by decide +kernel)
theorem bi_law_lots (kV doc pm : Value) (an : Option Addr) (cdv ct : Value) (us : List Value) (hl : us.length = ps_law_lots.length) : bindArgs (PySem.W.fnOf (Str.ofString "_law_lots") (Str.ofString "_law_lots") (L2.defArgs s_law_lots) (L2.defBody s_law_lots) (L2.defScope s_law_lots) .none kV doc pm an cdv ct) ⟨us, []⟩ = pure (ps_law_lots.zip us) := match us, hl with
  | [_, _, _], _ => rfl
abbrev s_law_steps : Stmt := topS 36
theorem d_law_steps : DefOk s_law_steps N_law_steps ps_law_steps bn b_law_steps := defB_of (by decide +kernel)
theorem bi_law_steps (kV doc pm : Value) (an : Option Addr) (cdv ct : Value) (us : List Value) (hl : us.length = ps_law_steps.length) : bindArgs (PySem.W.fnOf (Str.ofString "_law_steps") (Str.ofString "_law_steps") (L2.defArgs s_law_steps) (L2.defBody s_law_steps) (L2.defScope s_law_steps) .none kV doc pm an cdv ct) ⟨us, []⟩ = pure (ps_law_steps.zip us) := match us, hl with
  | [_, _, _, _, _], _ => rfl
abbrev s_law_made : Stmt := topS 37
theorem d_law_made : DefOk s_law_made N_law_made ps_law_made bn b_law_made := defB_of (by decide +kernel)
theorem bi_law_made (kV doc pm : Value) (an : Option Addr) (cdv ct : Value) (us : List Value) (hl : us.length = ps_law_made.length) : bindArgs (PySem.W.fnOf (Str.ofString "_law_made") (Str.ofString "_law_made") (L2.defArgs s_law_made) (L2.defBody s_law_made) (L2.defScope s_law_made) .none kV doc pm an cdv ct) ⟨us, []⟩ = pure (ps_law_made.zip us) := match us, hl with
  | [_, _, _, _, _, _], _ => rfl
abbrev s_law_book_right : Stmt := topS 38
theorem d_law_book_right : DefOk s_law_book_right N_law_book_right ps_law_book_right bn b_law_book_right := defB_of (by decide +kernel)
theorem bi_law_book_right (kV doc pm : Value) (an : Option Addr) (cdv ct : Value) (us : List Value) (hl : us.length = ps_law_book_right.length) : bindArgs (PySem.W.fnOf (Str.ofString "_law_book_right") (Str.ofString "_law_book_right") (L2.defArgs s_law_book_right) (L2.defBody s_law_book_right) (L2.defScope s_law_book_right) .none kV doc pm an cdv ct) ⟨us, []⟩ = pure (ps_law_book_right.zip us) := match us, hl with
  | [_, _, _, _, _], _ => rfl
abbrev s_law_terms : Stmt := topS 39
theorem d_law_terms : DefOk s_law_terms N_law_terms ps_law_terms bn b_law_terms := defB_of (by decide +kernel)
theorem bi_law_terms (kV doc pm : Value) (an : Option Addr) (cdv ct : Value) (us : List Value) (hl : us.length = ps_law_terms.length) : bindArgs (PySem.W.fnOf (Str.ofString "_law_terms") (Str.ofString "_law_terms") (L2.defArgs s_law_terms) (L2.defBody s_law_terms) (L2.defScope s_law_terms) .none kV doc pm an cdv ct) ⟨us, []⟩ = pure (ps_law_terms.zip us) := match us, hl with
  | [_, _, _, _], _ => rfl
abbrev s_law_formulas_right : Stmt := topS 40
theorem d_law_formulas_right : DefOk s_law_formulas_right N_law_formulas_right ps_law_formulas_right bn b_law_formulas_right := defB_of (by decide +kernel)
theorem bi_law_formulas_right (kV doc pm : Value) (an : Option Addr) (cdv ct : Value) (us : List Value) (hl : us.length = ps_law_formulas_right.length) : bindArgs (PySem.W.fnOf (Str.ofString "_law_formulas_right") (Str.ofString "_law_formulas_right") (L2.defArgs s_law_formulas_right) (L2.defBody s_law_formulas_right) (L2.defScope s_law_formulas_right) .none kV doc pm an cdv ct) ⟨us, []⟩ = pure (ps_law_formulas_right.zip us) := match us, hl with
  | [_, _, _, _, _], _ => rfl
abbrev s_law_least_right : Stmt := topS 41
theorem d_law_least_right : DefOk s_law_least_right N_law_least_right ps_law_least_right bn b_law_least_right := defB_of (by decide +kernel)
theorem bi_law_least_right (kV doc pm : Value) (an : Option Addr) (cdv ct : Value) (us : List Value) (hl : us.length = ps_law_least_right.length) : bindArgs (PySem.W.fnOf (Str.ofString "_law_least_right") (Str.ofString "_law_least_right") (L2.defArgs s_law_least_right) (L2.defBody s_law_least_right) (L2.defScope s_law_least_right) .none kV doc pm an cdv ct) ⟨us, []⟩ = pure (ps_law_least_right.zip us) := match us, hl with
  | [_, _, _, _, _], _ => rfl
abbrev s_law_lowest : Stmt := topS 42
theorem d_law_lowest : DefOk s_law_lowest N_law_lowest ps_law_lowest bn b_law_lowest := defB_of (by decide +kernel)
theorem bi_law_lowest (kV doc pm : Value) (an : Option Addr) (cdv ct : Value) (us : List Value) (hl : us.length = ps_law_lowest.length) : bindArgs (PySem.W.fnOf (Str.ofString "_law_lowest") (Str.ofString "_law_lowest") (L2.defArgs s_law_lowest) (L2.defBody s_law_lowest) (L2.defScope s_law_lowest) .none kV doc pm an cdv ct) ⟨us, []⟩ = pure (ps_law_lowest.zip us) := match us, hl with
  | [_, _], _ => rfl
abbrev s_law_corners_right : Stmt := topS 43
theorem d_law_corners_right : DefOk s_law_corners_right N_law_corners_right ps_law_corners_right bn b_law_corners_right := defB_of (by decide +kernel)
theorem bi_law_corners_right (kV doc pm : Value) (an : Option Addr) (cdv ct : Value) (us : List Value) (hl : us.length = ps_law_corners_right.length) : bindArgs (PySem.W.fnOf (Str.ofString "_law_corners_right") (Str.ofString "_law_corners_right") (L2.defArgs s_law_corners_right) (L2.defBody s_law_corners_right) (L2.defScope s_law_corners_right) .none kV doc pm an cdv ct) ⟨us, []⟩ = pure (ps_law_corners_right.zip us) := match us, hl with
  | [_, _], _ => rfl
abbrev s_law : Stmt := topS 44
theorem d_law : DefOk s_law N_law ps_law bn b_law := defB_of (by decide +kernel)
theorem bi_law (kV doc pm : Value) (an : Option Addr) (cdv ct : Value) (us : List Value) (hl : us.length = ps_law.length) : bindArgs (PySem.W.fnOf (Str.ofString "law") (Str.ofString "law") (L2.defArgs s_law) (L2.defBody s_law) (L2.defScope s_law) .none kV doc pm an cdv ct) ⟨us, []⟩ = pure (ps_law.zip us) := match us, hl with
  | [_], _ => rfl
abbrev i_BadCall : Stmt := inClass (topS 6) 0
theorem si_BadCall : L2.FnScope [Str.ofString "self", Str.ofString "word"] [Str.ofString "self", Str.ofString "word"] (L2.defScope i_BadCall) := fscope_of (by decide +kernel)
theorem bi_BadCall (kV doc pm : Value) (an : Option Addr) (cdv ct : Value) (us : List Value) (hl : us.length = [Str.ofString "self", Str.ofString "word"].length) : bindArgs (PySem.W.fnOf (Str.ofString "__init__") (Str.ofString "BadCall.__init__") (L2.defArgs i_BadCall) (L2.defBody i_BadCall) (L2.defScope i_BadCall) .none kV doc pm an cdv ct) ⟨us, []⟩ = pure ([Str.ofString "self", Str.ofString "word"].zip us) := match us, hl with
  | [_, _], _ => rfl
theorem all_mk {P : Program} {w : World} {K : PySem.W.Frag} {h : Heap} {mg : Str → Option Value} {fa : Addr} (X : K.In h) (G : h.Ns mainGlobals mg) (hfa : mg (Str.ofString "law") = some (.ref fa))
    {f1 f2 f3 f4 f5 f6 f7 f8 f9 f10 f11 f12 f13 f14 f15 f16 f17 f18 f19 f20 f21 f22 f23 f24 f25 f26 f27 f28 f29 f30 f31 f32 f33 : Addr}
    {od1 an1 od2 an2 od3 an3 od4 an4 od5 an5 od6 an6 od7 an7 od8 an8 od9 an9 od10 an10 od11 an11 od12 an12 od13 an13 od14 an14 od15 an15 od16 an16 od17 an17 od18 an18 od19 an19 od20 an20 od21 an21 od22 an22 od23 an23 od24 an24 od25 an25 od26 an26 od27 an27 od28 an28 od29 an29 od30 an30 od31 an31 od32 an32 od33 an33 : Option Addr} {sl1 sl2 sl3 sl4 sl5 sl6 sl7 sl8 sl9 sl10 sl11 sl12 sl13 sl14 sl15 sl16 sl17 sl18 sl19 sl20 sl21 sl22 sl23 sl24 sl25 sl26 sl27 sl28 sl29 sl30 sl31 sl32 sl33 : Array (Option Value)} {oc1 kV1 dc1 pm1 cd1 ct1 oc2 kV2 dc2 pm2 cd2 ct2 oc3 kV3 dc3 pm3 cd3 ct3 oc4 kV4 dc4 pm4 cd4 ct4 oc5 kV5 dc5 pm5 cd5 ct5 oc6 kV6 dc6 pm6 cd6 ct6 oc7 kV7 dc7 pm7 cd7 ct7 oc8 kV8 dc8 pm8 cd8 ct8 oc9 kV9 dc9 pm9 cd9 ct9 oc10 kV10 dc10 pm10 cd10 ct10 oc11 kV11 dc11 pm11 cd11 ct11 oc12 kV12 dc12 pm12 cd12 ct12 oc13 kV13 dc13 pm13 cd13 ct13 oc14 kV14 dc14 pm14 cd14 ct14 oc15 kV15 dc15 pm15 cd15 ct15 oc16 kV16 dc16 pm16 cd16 ct16 oc17 kV17 dc17 pm17 cd17 ct17 oc18 kV18 dc18 pm18 cd18 ct18 oc19 kV19 dc19 pm19 cd19 ct19 oc20 kV20 dc20 pm20 cd20 ct20 oc21 kV21 dc21 pm21 cd21 ct21 oc22 kV22 dc22 pm22 cd22 ct22 oc23 kV23 dc23 pm23 cd23 ct23 oc24 kV24 dc24 pm24 cd24 ct24 oc25 kV25 dc25 pm25 cd25 ct25 oc26 kV26 dc26 pm26 cd26 ct26 oc27 kV27 dc27 pm27 cd27 ct27 oc28 kV28 dc28 pm28 cd28 ct28 oc29 kV29 dc29 pm29 cd29 ct29 oc30 kV30 dc30 pm30 cd30 ct30 oc31 kV31 dc31 pm31 cd31 ct31 oc32 kV32 dc32 pm32 cd32 ct32 oc33 kV33 dc33 pm33 cd33 ct33 : Value}
    (a1 : PySem.W.nsIn K mainGlobals (Str.ofString "members_of") = some (some (.ref f1)))
    (l1 : K.lookup f1 = some ⟨oc1, od1, .func (PySem.W.fnOf (Str.ofString "members_of") (Str.ofString "members_of") (L2.defArgs s_members_of) (L2.defBody s_members_of) (L2.defScope s_members_of) .none kV1 dc1 pm1 an1 cd1 ct1), sl1⟩)
    (c1 : PySem.W.codeIn K cd1 (Str.ofString "members_of") = true) (k1 : PySem.W.keepIn K (.ref f1) = true)
    (a2 : PySem.W.nsIn K mainGlobals (Str.ofString "members_count") = some (some (.ref f2)))
    (l2 : K.lookup f2 = some ⟨oc2, od2, .func (PySem.W.fnOf (Str.ofString "members_count") (Str.ofString "members_count") (L2.defArgs s_members_count) (L2.defBody s_members_count) (L2.defScope s_members_count) .none kV2 dc2 pm2 an2 cd2 ct2), sl2⟩)
    (c2 : PySem.W.codeIn K cd2 (Str.ofString "members_count") = true) (k2 : PySem.W.keepIn K (.ref f2) = true)
    (a3 : PySem.W.nsIn K mainGlobals (Str.ofString "lots_of") = some (some (.ref f3)))
    (l3 : K.lookup f3 = some ⟨oc3, od3, .func (PySem.W.fnOf (Str.ofString "lots_of") (Str.ofString "lots_of") (L2.defArgs s_lots_of) (L2.defBody s_lots_of) (L2.defScope s_lots_of) .none kV3 dc3 pm3 an3 cd3 ct3), sl3⟩)
    (c3 : PySem.W.codeIn K cd3 (Str.ofString "lots_of") = true) (k3 : PySem.W.keepIn K (.ref f3) = true)
    (a4 : PySem.W.nsIn K mainGlobals (Str.ofString "box_names") = some (some (.ref f4)))
    (l4 : K.lookup f4 = some ⟨oc4, od4, .func (PySem.W.fnOf (Str.ofString "box_names") (Str.ofString "box_names") (L2.defArgs s_box_names) (L2.defBody s_box_names) (L2.defScope s_box_names) .none kV4 dc4 pm4 an4 cd4 ct4), sl4⟩)
    (c4 : PySem.W.codeIn K cd4 (Str.ofString "box_names") = true) (k4 : PySem.W.keepIn K (.ref f4) = true)
    (a5 : PySem.W.nsIn K mainGlobals (Str.ofString "put_standing") = some (some (.ref f5)))
    (l5 : K.lookup f5 = some ⟨oc5, od5, .func (PySem.W.fnOf (Str.ofString "put_standing") (Str.ofString "put_standing") (L2.defArgs s_put_standing) (L2.defBody s_put_standing) (L2.defScope s_put_standing) .none kV5 dc5 pm5 an5 cd5 ct5), sl5⟩)
    (c5 : PySem.W.codeIn K cd5 (Str.ofString "put_standing") = true) (k5 : PySem.W.keepIn K (.ref f5) = true)
    (a6 : PySem.W.nsIn K mainGlobals (Str.ofString "made_step") = some (some (.ref f6)))
    (l6 : K.lookup f6 = some ⟨oc6, od6, .func (PySem.W.fnOf (Str.ofString "made_step") (Str.ofString "made_step") (L2.defArgs s_made_step) (L2.defBody s_made_step) (L2.defScope s_made_step) .none kV6 dc6 pm6 an6 cd6 ct6), sl6⟩)
    (c6 : PySem.W.codeIn K cd6 (Str.ofString "made_step") = true) (k6 : PySem.W.keepIn K (.ref f6) = true)
    (a7 : PySem.W.nsIn K mainGlobals (Str.ofString "helper_steps") = some (some (.ref f7)))
    (l7 : K.lookup f7 = some ⟨oc7, od7, .func (PySem.W.fnOf (Str.ofString "helper_steps") (Str.ofString "helper_steps") (L2.defArgs s_helper_steps) (L2.defBody s_helper_steps) (L2.defScope s_helper_steps) .none kV7 dc7 pm7 an7 cd7 ct7), sl7⟩)
    (c7 : PySem.W.codeIn K cd7 (Str.ofString "helper_steps") = true) (k7 : PySem.W.keepIn K (.ref f7) = true)
    (a8 : PySem.W.nsIn K mainGlobals (Str.ofString "symmetric_book") = some (some (.ref f8)))
    (l8 : K.lookup f8 = some ⟨oc8, od8, .func (PySem.W.fnOf (Str.ofString "symmetric_book") (Str.ofString "symmetric_book") (L2.defArgs s_symmetric_book) (L2.defBody s_symmetric_book) (L2.defScope s_symmetric_book) .none kV8 dc8 pm8 an8 cd8 ct8), sl8⟩)
    (c8 : PySem.W.codeIn K cd8 (Str.ofString "symmetric_book") = true) (k8 : PySem.W.keepIn K (.ref f8) = true)
    (a9 : PySem.W.nsIn K mainGlobals (Str.ofString "choosing_book") = some (some (.ref f9)))
    (l9 : K.lookup f9 = some ⟨oc9, od9, .func (PySem.W.fnOf (Str.ofString "choosing_book") (Str.ofString "choosing_book") (L2.defArgs s_choosing_book) (L2.defBody s_choosing_book) (L2.defScope s_choosing_book) .none kV9 dc9 pm9 an9 cd9 ct9), sl9⟩)
    (c9 : PySem.W.codeIn K cd9 (Str.ofString "choosing_book") = true) (k9 : PySem.W.keepIn K (.ref f9) = true)
    (a10 : PySem.W.nsIn K mainGlobals (Str.ofString "formula_part") = some (some (.ref f10)))
    (l10 : K.lookup f10 = some ⟨oc10, od10, .func (PySem.W.fnOf (Str.ofString "formula_part") (Str.ofString "formula_part") (L2.defArgs s_formula_part) (L2.defBody s_formula_part) (L2.defScope s_formula_part) .none kV10 dc10 pm10 an10 cd10 ct10), sl10⟩)
    (c10 : PySem.W.codeIn K cd10 (Str.ofString "formula_part") = true) (k10 : PySem.W.keepIn K (.ref f10) = true)
    (a11 : PySem.W.nsIn K mainGlobals (Str.ofString "formula_size") = some (some (.ref f11)))
    (l11 : K.lookup f11 = some ⟨oc11, od11, .func (PySem.W.fnOf (Str.ofString "formula_size") (Str.ofString "formula_size") (L2.defArgs s_formula_size) (L2.defBody s_formula_size) (L2.defScope s_formula_size) .none kV11 dc11 pm11 an11 cd11 ct11), sl11⟩)
    (c11 : PySem.W.codeIn K cd11 (Str.ofString "formula_size") = true) (k11 : PySem.W.keepIn K (.ref f11) = true)
    (a12 : PySem.W.nsIn K mainGlobals (Str.ofString "formula_moves") = some (some (.ref f12)))
    (l12 : K.lookup f12 = some ⟨oc12, od12, .func (PySem.W.fnOf (Str.ofString "formula_moves") (Str.ofString "formula_moves") (L2.defArgs s_formula_moves) (L2.defBody s_formula_moves) (L2.defScope s_formula_moves) .none kV12 dc12 pm12 an12 cd12 ct12), sl12⟩)
    (c12 : PySem.W.codeIn K cd12 (Str.ofString "formula_moves") = true) (k12 : PySem.W.keepIn K (.ref f12) = true)
    (a13 : PySem.W.nsIn K mainGlobals (Str.ofString "copies_size") = some (some (.ref f13)))
    (l13 : K.lookup f13 = some ⟨oc13, od13, .func (PySem.W.fnOf (Str.ofString "copies_size") (Str.ofString "copies_size") (L2.defArgs s_copies_size) (L2.defBody s_copies_size) (L2.defScope s_copies_size) .none kV13 dc13 pm13 an13 cd13 ct13), sl13⟩)
    (c13 : PySem.W.codeIn K cd13 (Str.ofString "copies_size") = true) (k13 : PySem.W.keepIn K (.ref f13) = true)
    (a14 : PySem.W.nsIn K mainGlobals (Str.ofString "fraction_of") = some (some (.ref f14)))
    (l14 : K.lookup f14 = some ⟨oc14, od14, .func (PySem.W.fnOf (Str.ofString "fraction_of") (Str.ofString "fraction_of") (L2.defArgs s_fraction_of) (L2.defBody s_fraction_of) (L2.defScope s_fraction_of) .none kV14 dc14 pm14 an14 cd14 ct14), sl14⟩)
    (c14 : PySem.W.codeIn K cd14 (Str.ofString "fraction_of") = true) (k14 : PySem.W.keepIn K (.ref f14) = true)
    (a15 : PySem.W.nsIn K mainGlobals (Str.ofString "fraction_of_two") = some (some (.ref f15)))
    (l15 : K.lookup f15 = some ⟨oc15, od15, .func (PySem.W.fnOf (Str.ofString "fraction_of_two") (Str.ofString "fraction_of_two") (L2.defArgs s_fraction_of_two) (L2.defBody s_fraction_of_two) (L2.defScope s_fraction_of_two) .none kV15 dc15 pm15 an15 cd15 ct15), sl15⟩)
    (c15 : PySem.W.codeIn K cd15 (Str.ofString "fraction_of_two") = true) (k15 : PySem.W.keepIn K (.ref f15) = true)
    (a16 : PySem.W.nsIn K mainGlobals (Str.ofString "corners_of") = some (some (.ref f16)))
    (l16 : K.lookup f16 = some ⟨oc16, od16, .func (PySem.W.fnOf (Str.ofString "corners_of") (Str.ofString "corners_of") (L2.defArgs s_corners_of) (L2.defBody s_corners_of) (L2.defScope s_corners_of) .none kV16 dc16 pm16 an16 cd16 ct16), sl16⟩)
    (c16 : PySem.W.codeIn K cd16 (Str.ofString "corners_of") = true) (k16 : PySem.W.keepIn K (.ref f16) = true)
    (a17 : PySem.W.nsIn K mainGlobals (Str.ofString "least_help") = some (some (.ref f17)))
    (l17 : K.lookup f17 = some ⟨oc17, od17, .func (PySem.W.fnOf (Str.ofString "least_help") (Str.ofString "least_help") (L2.defArgs s_least_help) (L2.defBody s_least_help) (L2.defScope s_least_help) .none kV17 dc17 pm17 an17 cd17 ct17), sl17⟩)
    (c17 : PySem.W.codeIn K cd17 (Str.ofString "least_help") = true) (k17 : PySem.W.keepIn K (.ref f17) = true)
    (a18 : PySem.W.nsIn K mainGlobals (Str.ofString "least_room") = some (some (.ref f18)))
    (l18 : K.lookup f18 = some ⟨oc18, od18, .func (PySem.W.fnOf (Str.ofString "least_room") (Str.ofString "least_room") (L2.defArgs s_least_room) (L2.defBody s_least_room) (L2.defScope s_least_room) .none kV18 dc18 pm18 an18 cd18 ct18), sl18⟩)
    (c18 : PySem.W.codeIn K cd18 (Str.ofString "least_room") = true) (k18 : PySem.W.keepIn K (.ref f18) = true)
    (a19 : PySem.W.nsIn K mainGlobals (Str.ofString "_law_pool") = some (some (.ref f19)))
    (l19 : K.lookup f19 = some ⟨oc19, od19, .func (PySem.W.fnOf (Str.ofString "_law_pool") (Str.ofString "_law_pool") (L2.defArgs s_law_pool) (L2.defBody s_law_pool) (L2.defScope s_law_pool) .none kV19 dc19 pm19 an19 cd19 ct19), sl19⟩)
    (c19 : PySem.W.codeIn K cd19 (Str.ofString "_law_pool") = true) (k19 : PySem.W.keepIn K (.ref f19) = true)
    (a20 : PySem.W.nsIn K mainGlobals (Str.ofString "_law_draw") = some (some (.ref f20)))
    (l20 : K.lookup f20 = some ⟨oc20, od20, .func (PySem.W.fnOf (Str.ofString "_law_draw") (Str.ofString "_law_draw") (L2.defArgs s_law_draw) (L2.defBody s_law_draw) (L2.defScope s_law_draw) .none kV20 dc20 pm20 an20 cd20 ct20), sl20⟩)
    (c20 : PySem.W.codeIn K cd20 (Str.ofString "_law_draw") = true) (k20 : PySem.W.keepIn K (.ref f20) = true)
    (a21 : PySem.W.nsIn K mainGlobals (Str.ofString "_law_number") = some (some (.ref f21)))
    (l21 : K.lookup f21 = some ⟨oc21, od21, .func (PySem.W.fnOf (Str.ofString "_law_number") (Str.ofString "_law_number") (L2.defArgs s_law_number) (L2.defBody s_law_number) (L2.defScope s_law_number) .none kV21 dc21 pm21 an21 cd21 ct21), sl21⟩)
    (c21 : PySem.W.codeIn K cd21 (Str.ofString "_law_number") = true) (k21 : PySem.W.keepIn K (.ref f21) = true)
    (a22 : PySem.W.nsIn K mainGlobals (Str.ofString "_law_whole") = some (some (.ref f22)))
    (l22 : K.lookup f22 = some ⟨oc22, od22, .func (PySem.W.fnOf (Str.ofString "_law_whole") (Str.ofString "_law_whole") (L2.defArgs s_law_whole) (L2.defBody s_law_whole) (L2.defScope s_law_whole) .none kV22 dc22 pm22 an22 cd22 ct22), sl22⟩)
    (c22 : PySem.W.codeIn K cd22 (Str.ofString "_law_whole") = true) (k22 : PySem.W.keepIn K (.ref f22) = true)
    (a23 : PySem.W.nsIn K mainGlobals (Str.ofString "_law_same") = some (some (.ref f23)))
    (l23 : K.lookup f23 = some ⟨oc23, od23, .func (PySem.W.fnOf (Str.ofString "_law_same") (Str.ofString "_law_same") (L2.defArgs s_law_same) (L2.defBody s_law_same) (L2.defScope s_law_same) .none kV23 dc23 pm23 an23 cd23 ct23), sl23⟩)
    (c23 : PySem.W.codeIn K cd23 (Str.ofString "_law_same") = true) (k23 : PySem.W.keepIn K (.ref f23) = true)
    (a24 : PySem.W.nsIn K mainGlobals (Str.ofString "_law_lots") = some (some (.ref f24)))
    (l24 : K.lookup f24 = some ⟨oc24, od24, .func (PySem.W.fnOf (Str.ofString "_law_lots") (Str.ofString "_law_lots") (L2.defArgs s_law_lots) (L2.defBody s_law_lots) (L2.defScope s_law_lots) .none kV24 dc24 pm24 an24 cd24 ct24), sl24⟩)
    (c24 : PySem.W.codeIn K cd24 (Str.ofString "_law_lots") = true) (k24 : PySem.W.keepIn K (.ref f24) = true)
    (a25 : PySem.W.nsIn K mainGlobals (Str.ofString "_law_steps") = some (some (.ref f25)))
    (l25 : K.lookup f25 = some ⟨oc25, od25, .func (PySem.W.fnOf (Str.ofString "_law_steps") (Str.ofString "_law_steps") (L2.defArgs s_law_steps) (L2.defBody s_law_steps) (L2.defScope s_law_steps) .none kV25 dc25 pm25 an25 cd25 ct25), sl25⟩)
    (c25 : PySem.W.codeIn K cd25 (Str.ofString "_law_steps") = true) (k25 : PySem.W.keepIn K (.ref f25) = true)
    (a26 : PySem.W.nsIn K mainGlobals (Str.ofString "_law_made") = some (some (.ref f26)))
    (l26 : K.lookup f26 = some ⟨oc26, od26, .func (PySem.W.fnOf (Str.ofString "_law_made") (Str.ofString "_law_made") (L2.defArgs s_law_made) (L2.defBody s_law_made) (L2.defScope s_law_made) .none kV26 dc26 pm26 an26 cd26 ct26), sl26⟩)
    (c26 : PySem.W.codeIn K cd26 (Str.ofString "_law_made") = true) (k26 : PySem.W.keepIn K (.ref f26) = true)
    (a27 : PySem.W.nsIn K mainGlobals (Str.ofString "_law_book_right") = some (some (.ref f27)))
    (l27 : K.lookup f27 = some ⟨oc27, od27, .func (PySem.W.fnOf (Str.ofString "_law_book_right") (Str.ofString "_law_book_right") (L2.defArgs s_law_book_right) (L2.defBody s_law_book_right) (L2.defScope s_law_book_right) .none kV27 dc27 pm27 an27 cd27 ct27), sl27⟩)
    (c27 : PySem.W.codeIn K cd27 (Str.ofString "_law_book_right") = true) (k27 : PySem.W.keepIn K (.ref f27) = true)
    (a28 : PySem.W.nsIn K mainGlobals (Str.ofString "_law_terms") = some (some (.ref f28)))
    (l28 : K.lookup f28 = some ⟨oc28, od28, .func (PySem.W.fnOf (Str.ofString "_law_terms") (Str.ofString "_law_terms") (L2.defArgs s_law_terms) (L2.defBody s_law_terms) (L2.defScope s_law_terms) .none kV28 dc28 pm28 an28 cd28 ct28), sl28⟩)
    (c28 : PySem.W.codeIn K cd28 (Str.ofString "_law_terms") = true) (k28 : PySem.W.keepIn K (.ref f28) = true)
    (a29 : PySem.W.nsIn K mainGlobals (Str.ofString "_law_formulas_right") = some (some (.ref f29)))
    (l29 : K.lookup f29 = some ⟨oc29, od29, .func (PySem.W.fnOf (Str.ofString "_law_formulas_right") (Str.ofString "_law_formulas_right") (L2.defArgs s_law_formulas_right) (L2.defBody s_law_formulas_right) (L2.defScope s_law_formulas_right) .none kV29 dc29 pm29 an29 cd29 ct29), sl29⟩)
    (c29 : PySem.W.codeIn K cd29 (Str.ofString "_law_formulas_right") = true) (k29 : PySem.W.keepIn K (.ref f29) = true)
    (a30 : PySem.W.nsIn K mainGlobals (Str.ofString "_law_least_right") = some (some (.ref f30)))
    (l30 : K.lookup f30 = some ⟨oc30, od30, .func (PySem.W.fnOf (Str.ofString "_law_least_right") (Str.ofString "_law_least_right") (L2.defArgs s_law_least_right) (L2.defBody s_law_least_right) (L2.defScope s_law_least_right) .none kV30 dc30 pm30 an30 cd30 ct30), sl30⟩)
    (c30 : PySem.W.codeIn K cd30 (Str.ofString "_law_least_right") = true) (k30 : PySem.W.keepIn K (.ref f30) = true)
    (a31 : PySem.W.nsIn K mainGlobals (Str.ofString "_law_lowest") = some (some (.ref f31)))
    (l31 : K.lookup f31 = some ⟨oc31, od31, .func (PySem.W.fnOf (Str.ofString "_law_lowest") (Str.ofString "_law_lowest") (L2.defArgs s_law_lowest) (L2.defBody s_law_lowest) (L2.defScope s_law_lowest) .none kV31 dc31 pm31 an31 cd31 ct31), sl31⟩)
    (c31 : PySem.W.codeIn K cd31 (Str.ofString "_law_lowest") = true) (k31 : PySem.W.keepIn K (.ref f31) = true)
    (a32 : PySem.W.nsIn K mainGlobals (Str.ofString "_law_corners_right") = some (some (.ref f32)))
    (l32 : K.lookup f32 = some ⟨oc32, od32, .func (PySem.W.fnOf (Str.ofString "_law_corners_right") (Str.ofString "_law_corners_right") (L2.defArgs s_law_corners_right) (L2.defBody s_law_corners_right) (L2.defScope s_law_corners_right) .none kV32 dc32 pm32 an32 cd32 ct32), sl32⟩)
    (c32 : PySem.W.codeIn K cd32 (Str.ofString "_law_corners_right") = true) (k32 : PySem.W.keepIn K (.ref f32) = true)
    (a33 : PySem.W.nsIn K mainGlobals (Str.ofString "law") = some (some (.ref f33)))
    (l33 : K.lookup f33 = some ⟨oc33, od33, .func (PySem.W.fnOf (Str.ofString "law") (Str.ofString "law") (L2.defArgs s_law) (L2.defBody s_law) (L2.defScope s_law) .none kV33 dc33 pm33 an33 cd33 ct33), sl33⟩)
    (c33 : PySem.W.codeIn K cd33 (Str.ofString "law") = true) (k33 : PySem.W.keepIn K (.ref f33) = true)
    {C_BadCall I_BadCall N_xBadCall : Addr} {nm_BadCall q_BadCall : Str} {bs_BadCall bm_BadCall sub_BadCall : List Value} {sn_BadCall : List Str} {ab_BadCall : Bool} {col_BadCall : Option Bool} {dd_BadCall : Option Addr} {m0_BadCall m1_BadCall m2_BadCall m3_BadCall m5_BadCall : Option Value} {odi_BadCall ani_BadCall : Option Addr} {sli_BadCall : Array (Option Value)} {oci_BadCall kVi_BadCall dci_BadCall pmi_BadCall cdi_BadCall cti_BadCall : Value}
    (aC_BadCall : PySem.W.nsIn K mainGlobals (Str.ofString "BadCall") = some (some (.ref C_BadCall)))
    (xL_BadCall : K.lookup C_BadCall = some (excClassObj nm_BadCall q_BadCall C_BadCall N_xBadCall bs_BadCall bm_BadCall true sn_BadCall sub_BadCall ab_BadCall col_BadCall dd_BadCall m0_BadCall m1_BadCall m2_BadCall m3_BadCall m5_BadCall "ValueError.__new__"))
    (rb_BadCall : PySem.HandSPX.refsVE bm_BadCall = true)
    (sa_BadCall : PySem.W.findIn K (.ref C_BadCall) "__setattr__" = some (some (.builtin "object.__setattr__")))
    (ga_BadCall : PySem.W.findIn K (.ref C_BadCall) "__getattribute__" = some (some (.builtin "BaseException.__getattribute__")))
    (gg_BadCall : PySem.W.findIn K (.ref C_BadCall) "__getattr__" = some none)
    (nb0_BadCall : PySem.W.findIn K (.ref C_BadCall) (Str.ofString "word") = some none)
    (iC_BadCall : PySem.W.findIn K (.ref C_BadCall) "__init__" = some (some (.ref I_BadCall)))
    (tI_BadCall : PySem.W.typeIn K (.ref I_BadCall) = some (.type "function"))
    (lI_BadCall : K.lookup I_BadCall = some ⟨oci_BadCall, odi_BadCall, .func (PySem.W.fnOf (Str.ofString "__init__") (Str.ofString "BadCall.__init__") (L2.defArgs i_BadCall) (L2.defBody i_BadCall) (L2.defScope i_BadCall) .none kVi_BadCall dci_BadCall pmi_BadCall ani_BadCall cdi_BadCall cti_BadCall), sli_BadCall⟩)
    (cI_BadCall : PySem.W.codeIn K cdi_BadCall (Str.ofString "BadCall.__init__") = true)
    (kI_BadCall : PySem.W.keepIn K (.ref I_BadCall) = true)
    (kC_BadCall : PySem.W.keepIn K (.ref C_BadCall) = true)
    (eC_BadCall : PySem.W.subIn K (.ref C_BadCall) (.type "BaseException") = some true)
    (tC_BadCall : PySem.W.typeIn K (.ref C_BadCall) = some (.type "type"))
    (hC_BadCall : PySem.W.hasDictIn K C_BadCall = true)
    (jC_BadCall : PySem.W.isClsIn K C_BadCall = true)
    (sC_BadCall : PySem.W.subIn K (.ref C_BadCall) (.ref C_BadCall) = some true)
    (g1 : PySem.W.nsIn K mainGlobals (Str.ofString "gcd") = some (some (.builtin "math.gcd")))
    {tk_BOXES_MOST : Tok} (gc_BOXES_MOST : PySem.W.nsIn K mainGlobals (Str.ofString "BOXES_MOST") = some (some (.int 8 tk_BOXES_MOST)))
    {tk_MOVES_MOST : Tok} (gc_MOVES_MOST : PySem.W.nsIn K mainGlobals (Str.ofString "MOVES_MOST") = some (some (.int 150 tk_MOVES_MOST)))
    (z1 : PySem.W.nsIn K mainGlobals (Str.ofString "ValueError") = some none)
    (z2 : PySem.W.nsIn K mainGlobals (Str.ofString "bool") = some none)
    (z3 : PySem.W.nsIn K mainGlobals (Str.ofString "enumerate") = some none)
    (z4 : PySem.W.nsIn K mainGlobals (Str.ofString "int") = some none)
    (z5 : PySem.W.nsIn K mainGlobals (Str.ofString "isinstance") = some none)
    (z6 : PySem.W.nsIn K mainGlobals (Str.ofString "len") = some none)
    (z7 : PySem.W.nsIn K mainGlobals (Str.ofString "max") = some none)
    (z8 : PySem.W.nsIn K mainGlobals (Str.ofString "min") = some none)
    (z9 : PySem.W.nsIn K mainGlobals (Str.ofString "range") = some none)
    (z10 : PySem.W.nsIn K mainGlobals (Str.ofString "reversed") = some none)
    (z11 : PySem.W.nsIn K mainGlobals (Str.ofString "str") = some none)
    (z12 : PySem.W.nsIn K mainGlobals (Str.ofString "sum") = some none)
    (z13 : PySem.W.nsIn K mainGlobals (Str.ofString "tuple") = some none) :
    ∃ fd : FuncData, (∀ (s : Shared) (v : Value), BindsTo s fd ⟨[v], []⟩ [(Str.ofString "script", v)]) ∧ ∀ base : Heap, K.In base → base.Ns mainGlobals mg → L2.FnOk P w K mg base (L2N.CX P w) 7 fa fd [Str.ofString "script"] (spTop K) := by
  have e := hfa.symm.trans (PySem.W.mg_of X G a33)
  cases e
  have D1 : DefAt K (Str.ofString "members_of") s_members_of ps_members_of f1 := ⟨a1, ⟨_, L2.fun_mk (st := s_members_of) l1 c1 k1, (L2.fun_mk (st := s_members_of) l1 c1 k1).binds (ps := ps_members_of) bi_members_of⟩, k1⟩
  have D4 : DefAt K (Str.ofString "box_names") s_box_names ps_box_names f4 := ⟨a4, ⟨_, L2.fun_mk (st := s_box_names) l4 c4 k4, (L2.fun_mk (st := s_box_names) l4 c4 k4).binds (ps := ps_box_names) bi_box_names⟩, k4⟩
  have D5 : DefAt K (Str.ofString "put_standing") s_put_standing ps_put_standing f5 := ⟨a5, ⟨_, L2.fun_mk (st := s_put_standing) l5 c5 k5, (L2.fun_mk (st := s_put_standing) l5 c5 k5).binds (ps := ps_put_standing) bi_put_standing⟩, k5⟩
  have D10 : DefAt K (Str.ofString "formula_part") s_formula_part ps_formula_part f10 := ⟨a10, ⟨_, L2.fun_mk (st := s_formula_part) l10 c10 k10, (L2.fun_mk (st := s_formula_part) l10 c10 k10).binds (ps := ps_formula_part) bi_formula_part⟩, k10⟩
  have D13 : DefAt K (Str.ofString "copies_size") s_copies_size ps_copies_size f13 := ⟨a13, ⟨_, L2.fun_mk (st := s_copies_size) l13 c13 k13, (L2.fun_mk (st := s_copies_size) l13 c13 k13).binds (ps := ps_copies_size) bi_copies_size⟩, k13⟩
  have D15 : DefAt K (Str.ofString "fraction_of_two") s_fraction_of_two ps_fraction_of_two f15 := ⟨a15, ⟨_, L2.fun_mk (st := s_fraction_of_two) l15 c15 k15, (L2.fun_mk (st := s_fraction_of_two) l15 c15 k15).binds (ps := ps_fraction_of_two) bi_fraction_of_two⟩, k15⟩
  have D19 : DefAt K (Str.ofString "_law_pool") s_law_pool ps_law_pool f19 := ⟨a19, ⟨_, L2.fun_mk (st := s_law_pool) l19 c19 k19, (L2.fun_mk (st := s_law_pool) l19 c19 k19).binds (ps := ps_law_pool) bi_law_pool⟩, k19⟩
  have D20 : DefAt K (Str.ofString "_law_draw") s_law_draw ps_law_draw f20 := ⟨a20, ⟨_, L2.fun_mk (st := s_law_draw) l20 c20 k20, (L2.fun_mk (st := s_law_draw) l20 c20 k20).binds (ps := ps_law_draw) bi_law_draw⟩, k20⟩
  have D22 : DefAt K (Str.ofString "_law_whole") s_law_whole ps_law_whole f22 := ⟨a22, ⟨_, L2.fun_mk (st := s_law_whole) l22 c22 k22, (L2.fun_mk (st := s_law_whole) l22 c22 k22).binds (ps := ps_law_whole) bi_law_whole⟩, k22⟩
  have D24 : DefAt K (Str.ofString "_law_lots") s_law_lots ps_law_lots f24 := ⟨a24, ⟨_, L2.fun_mk (st := s_law_lots) l24 c24 k24, (L2.fun_mk (st := s_law_lots) l24 c24 k24).binds (ps := ps_law_lots) bi_law_lots⟩, k24⟩
  have D28 : DefAt K (Str.ofString "_law_terms") s_law_terms ps_law_terms f28 := ⟨a28, ⟨_, L2.fun_mk (st := s_law_terms) l28 c28 k28, (L2.fun_mk (st := s_law_terms) l28 c28 k28).binds (ps := ps_law_terms) bi_law_terms⟩, k28⟩
  have D31 : DefAt K (Str.ofString "_law_lowest") s_law_lowest ps_law_lowest f31 := ⟨a31, ⟨_, L2.fun_mk (st := s_law_lowest) l31 c31 k31, (L2.fun_mk (st := s_law_lowest) l31 c31 k31).binds (ps := ps_law_lowest) bi_law_lowest⟩, k31⟩
  have D2 : DefAt K (Str.ofString "members_count") s_members_count ps_members_count f2 := ⟨a2, ⟨_, L2.fun_mk (st := s_members_count) l2 c2 k2, (L2.fun_mk (st := s_members_count) l2 c2 k2).binds (ps := ps_members_count) bi_members_count⟩, k2⟩
  have D6 : DefAt K (Str.ofString "made_step") s_made_step ps_made_step f6 := ⟨a6, ⟨_, L2.fun_mk (st := s_made_step) l6 c6 k6, (L2.fun_mk (st := s_made_step) l6 c6 k6).binds (ps := ps_made_step) bi_made_step⟩, k6⟩
  have D11 : DefAt K (Str.ofString "formula_size") s_formula_size ps_formula_size f11 := ⟨a11, ⟨_, L2.fun_mk (st := s_formula_size) l11 c11 k11, (L2.fun_mk (st := s_formula_size) l11 c11 k11).binds (ps := ps_formula_size) bi_formula_size⟩, k11⟩
  have D12 : DefAt K (Str.ofString "formula_moves") s_formula_moves ps_formula_moves f12 := ⟨a12, ⟨_, L2.fun_mk (st := s_formula_moves) l12 c12 k12, (L2.fun_mk (st := s_formula_moves) l12 c12 k12).binds (ps := ps_formula_moves) bi_formula_moves⟩, k12⟩
  have D14 : DefAt K (Str.ofString "fraction_of") s_fraction_of ps_fraction_of f14 := ⟨a14, ⟨_, L2.fun_mk (st := s_fraction_of) l14 c14 k14, (L2.fun_mk (st := s_fraction_of) l14 c14 k14).binds (ps := ps_fraction_of) bi_fraction_of⟩, k14⟩
  have D21 : DefAt K (Str.ofString "_law_number") s_law_number ps_law_number f21 := ⟨a21, ⟨_, L2.fun_mk (st := s_law_number) l21 c21 k21, (L2.fun_mk (st := s_law_number) l21 c21 k21).binds (ps := ps_law_number) bi_law_number⟩, k21⟩
  have D23 : DefAt K (Str.ofString "_law_same") s_law_same ps_law_same f23 := ⟨a23, ⟨_, L2.fun_mk (st := s_law_same) l23 c23 k23, (L2.fun_mk (st := s_law_same) l23 c23 k23).binds (ps := ps_law_same) bi_law_same⟩, k23⟩
  have D25 : DefAt K (Str.ofString "_law_steps") s_law_steps ps_law_steps f25 := ⟨a25, ⟨_, L2.fun_mk (st := s_law_steps) l25 c25 k25, (L2.fun_mk (st := s_law_steps) l25 c25 k25).binds (ps := ps_law_steps) bi_law_steps⟩, k25⟩
  have D3 : DefAt K (Str.ofString "lots_of") s_lots_of ps_lots_of f3 := ⟨a3, ⟨_, L2.fun_mk (st := s_lots_of) l3 c3 k3, (L2.fun_mk (st := s_lots_of) l3 c3 k3).binds (ps := ps_lots_of) bi_lots_of⟩, k3⟩
  have D16 : DefAt K (Str.ofString "corners_of") s_corners_of ps_corners_of f16 := ⟨a16, ⟨_, L2.fun_mk (st := s_corners_of) l16 c16 k16, (L2.fun_mk (st := s_corners_of) l16 c16 k16).binds (ps := ps_corners_of) bi_corners_of⟩, k16⟩
  have D17 : DefAt K (Str.ofString "least_help") s_least_help ps_least_help f17 := ⟨a17, ⟨_, L2.fun_mk (st := s_least_help) l17 c17 k17, (L2.fun_mk (st := s_least_help) l17 c17 k17).binds (ps := ps_least_help) bi_least_help⟩, k17⟩
  have D18 : DefAt K (Str.ofString "least_room") s_least_room ps_least_room f18 := ⟨a18, ⟨_, L2.fun_mk (st := s_least_room) l18 c18 k18, (L2.fun_mk (st := s_least_room) l18 c18 k18).binds (ps := ps_least_room) bi_least_room⟩, k18⟩
  have D26 : DefAt K (Str.ofString "_law_made") s_law_made ps_law_made f26 := ⟨a26, ⟨_, L2.fun_mk (st := s_law_made) l26 c26 k26, (L2.fun_mk (st := s_law_made) l26 c26 k26).binds (ps := ps_law_made) bi_law_made⟩, k26⟩
  have D29 : DefAt K (Str.ofString "_law_formulas_right") s_law_formulas_right ps_law_formulas_right f29 := ⟨a29, ⟨_, L2.fun_mk (st := s_law_formulas_right) l29 c29 k29, (L2.fun_mk (st := s_law_formulas_right) l29 c29 k29).binds (ps := ps_law_formulas_right) bi_law_formulas_right⟩, k29⟩
  have D7 : DefAt K (Str.ofString "helper_steps") s_helper_steps ps_helper_steps f7 := ⟨a7, ⟨_, L2.fun_mk (st := s_helper_steps) l7 c7 k7, (L2.fun_mk (st := s_helper_steps) l7 c7 k7).binds (ps := ps_helper_steps) bi_helper_steps⟩, k7⟩
  have D30 : DefAt K (Str.ofString "_law_least_right") s_law_least_right ps_law_least_right f30 := ⟨a30, ⟨_, L2.fun_mk (st := s_law_least_right) l30 c30 k30, (L2.fun_mk (st := s_law_least_right) l30 c30 k30).binds (ps := ps_law_least_right) bi_law_least_right⟩, k30⟩
  have D32 : DefAt K (Str.ofString "_law_corners_right") s_law_corners_right ps_law_corners_right f32 := ⟨a32, ⟨_, L2.fun_mk (st := s_law_corners_right) l32 c32 k32, (L2.fun_mk (st := s_law_corners_right) l32 c32 k32).binds (ps := ps_law_corners_right) bi_law_corners_right⟩, k32⟩
  have D8 : DefAt K (Str.ofString "symmetric_book") s_symmetric_book ps_symmetric_book f8 := ⟨a8, ⟨_, L2.fun_mk (st := s_symmetric_book) l8 c8 k8, (L2.fun_mk (st := s_symmetric_book) l8 c8 k8).binds (ps := ps_symmetric_book) bi_symmetric_book⟩, k8⟩
  have D9 : DefAt K (Str.ofString "choosing_book") s_choosing_book ps_choosing_book f9 := ⟨a9, ⟨_, L2.fun_mk (st := s_choosing_book) l9 c9 k9, (L2.fun_mk (st := s_choosing_book) l9 c9 k9).binds (ps := ps_choosing_book) bi_choosing_book⟩, k9⟩
  have D27 : DefAt K (Str.ofString "_law_book_right") s_law_book_right ps_law_book_right f27 := ⟨a27, ⟨_, L2.fun_mk (st := s_law_book_right) l27 c27 k27, (L2.fun_mk (st := s_law_book_right) l27 c27 k27).binds (ps := ps_law_book_right) bi_law_book_right⟩, k27⟩
  have hbn : ∀ y ∈ bn, mg y = none := by
    intro y hy
    unfold bn at hy
    rcases List.mem_cons.mp hy with rfl | hy
    · exact PySem.W.mg_none_of X G z1
    rcases List.mem_cons.mp hy with rfl | hy
    · exact PySem.W.mg_none_of X G z2
    rcases List.mem_cons.mp hy with rfl | hy
    · exact PySem.W.mg_none_of X G z3
    rcases List.mem_cons.mp hy with rfl | hy
    · exact PySem.W.mg_none_of X G z4
    rcases List.mem_cons.mp hy with rfl | hy
    · exact PySem.W.mg_none_of X G z5
    rcases List.mem_cons.mp hy with rfl | hy
    · exact PySem.W.mg_none_of X G z6
    rcases List.mem_cons.mp hy with rfl | hy
    · exact PySem.W.mg_none_of X G z7
    rcases List.mem_cons.mp hy with rfl | hy
    · exact PySem.W.mg_none_of X G z8
    rcases List.mem_cons.mp hy with rfl | hy
    · exact PySem.W.mg_none_of X G z9
    rcases List.mem_cons.mp hy with rfl | hy
    · exact PySem.W.mg_none_of X G z10
    rcases List.mem_cons.mp hy with rfl | hy
    · exact PySem.W.mg_none_of X G z11
    rcases List.mem_cons.mp hy with rfl | hy
    · exact PySem.W.mg_none_of X G z12
    rcases List.mem_cons.mp hy with rfl | hy
    · exact PySem.W.mg_none_of X G z13
    cases hy
  have XC_BadCall : ExcC K C_BadCall I_BadCall [Str.ofString "word"] := ⟨⟨⟨_, _, _, _, _, _, _, _, _, _, _, _, _, _, _, xL_BadCall, rb_BadCall⟩, sa_BadCall, eC_BadCall, tC_BadCall, kC_BadCall⟩, ⟨ga_BadCall, gg_BadCall, eC_BadCall, hC_BadCall⟩, fun f hf => by
    rcases List.mem_cons.mp hf with rfl | hf
    · exact nb0_BadCall
    exact (nomatch hf), exm_self eC_BadCall jC_BadCall tC_BadCall sC_BadCall, iC_BadCall, tI_BadCall⟩
  have FI_BadCall := L2.fun_mk (st := i_BadCall) lI_BadCall cI_BadCall kI_BadCall
  have XE_BadCall : ∀ base : Heap, ExcAt P w K mg base 2 (Str.ofString "BadCall") [Str.ofString "word"] := fun base => ⟨C_BadCall, I_BadCall, _, _, 1, PySem.W.mg_of X G aC_BadCall, XC_BadCall, Nat.le_refl _, init1 FI_BadCall si_BadCall rfl XC_BadCall (by decide +kernel) (by decide +kernel), FI_BadCall.binds (ps := [Str.ofString "self", Str.ofString "word"]) bi_BadCall⟩
  have FL := L2.fun_mk (st := s_law) l33 c33 k33
  refine ⟨PySem.W.fnOf (Str.ofString "law") (Str.ofString "law") (L2.defArgs s_law) (L2.defBody s_law) (L2.defScope s_law) .none kV33 dc33 pm33 an33 cd33 ct33, fun s v => .of_eq rfl, fun base _ _ => ?_⟩
  have C1 : CallOk P w K mg base 1 (Str.ofString "members_of") 1 [] sp_members_of := CallOk.of (k := 0) D1 X G d_members_of hbn rfl (by unfold b_members_of; simp only [okS, okE, okA, okO, okT, okK, okV, okI, okG, okGs, okSJs, okSJ, okSA, okSB, bltHc, forHc, eq_self, and_true, true_and, and_self]) m_members_of.o
  have C4 : CallOk P w K mg base 1 (Str.ofString "box_names") 1 [] sp_box_names := CallOk.of (k := 0) D4 X G d_box_names hbn rfl (by unfold b_box_names; simp only [okS, okE, okA, okO, okT, okK, okV, okI, okG, okGs, okSJs, okSJ, okSA, okSB, bltHc, forHc, eq_self, and_true, true_and, and_self]) m_box_names.o
  have C5 : CallOk P w K mg base 1 (Str.ofString "put_standing") 2 [] sp_put_standing := CallOk.of (k := 0) D5 X G d_put_standing hbn rfl (by unfold b_put_standing; simp only [okS, okE, okA, okO, okT, okK, okV, okI, okG, okGs, okSJs, okSJ, okSA, okSB, bltHc, forHc, eq_self, and_true, true_and, and_self]) m_put_standing.o
  have C10 : CallOk P w K mg base 1 (Str.ofString "formula_part") 5 [] sp_formula_part := CallOk.of (k := 0) D10 X G d_formula_part hbn rfl (by unfold b_formula_part; simp only [okS, okE, okA, okO, okT, okK, okV, okI, okG, okGs, okSJs, okSJ, okSA, okSB, bltHc, forHc, eq_self, and_true, true_and, and_self]) m_formula_part.o
  have C13 : CallOk P w K mg base 1 (Str.ofString "copies_size") 3 [] sp_copies_size := CallOk.of (k := 0) D13 X G d_copies_size hbn rfl (by unfold b_copies_size; simp only [okS, okE, okA, okO, okT, okK, okV, okI, okG, okGs, okSJs, okSJ, okSA, okSB, bltHc, forHc, eq_self, and_true, true_and, and_self]) m_copies_size.o
  have C15 : CallOk P w K mg base 1 (Str.ofString "fraction_of_two") 2 [] sp_fraction_of_two := CallOk.of (k := 0) D15 X G d_fraction_of_two hbn rfl (by unfold b_fraction_of_two; simp only [okS, okE, okA, okO, okT, okK, okV, okI, okG, okGs, okSJs, okSJ, okSA, okSB, bltHc, forHc, eq_self, and_true, true_and, and_self, (CallOk.gcd X G g1).cal]) m_fraction_of_two.o
  have C19 : CallOk P w K mg base 1 (Str.ofString "_law_pool") 1 [] sp_law_pool := CallOk.of (k := 0) D19 X G d_law_pool hbn rfl (by unfold b_law_pool; unfold bPool; simp only [okS, okE, okA, okO, okT, okK, okV, okI, okG, okGs, okSJs, okSJ, okSA, okSB, bltHc, forHc, eq_self, and_true, true_and, and_self]) (m_pool 670820 120011 (by decide)).o
  have C20 : CallOk P w K mg base 1 (Str.ofString "_law_draw") 2 [] sp_law_draw := CallOk.of (k := 0) D20 X G d_law_draw hbn rfl (by unfold b_law_draw; unfold bDraw; simp only [okS, okE, okA, okO, okT, okK, okV, okI, okG, okGs, okSJs, okSJ, okSA, okSB, bltHc, forHc, eq_self, and_true, true_and, and_self]) (m_draw 330000000000000060 18 310019 (by decide) (by decide) (by decide))
  have C22 : CallOk P w K mg base 1 (Str.ofString "_law_whole") 1 [] sp_law_whole := CallOk.of (k := 0) D22 X G d_law_whole hbn rfl (by unfold b_law_whole; simp only [okS, okE, okA, okO, okT, okK, okV, okI, okG, okGs, okSJs, okSJ, okSA, okSB, bltHc, forHc, eq_self, and_true, true_and, and_self]) m_law_whole.o
  have H22 : CallH P w K mg base 1 (Str.ofString "_law_whole") 1 sp_law_whole := CallH.of (k := 0) D22 X G d_law_whole hbn rfl (by unfold b_law_whole; simp only [okS, okE, okA, okO, okT, okK, okV, okI, okG, okGs, bltHc, forHc, and_true, true_and, and_self]) m_law_whole.o
  have C24 : CallOk P w K mg base 1 (Str.ofString "_law_lots") 3 [] sp_law_lots := CallOk.of (k := 0) D24 X G d_law_lots hbn rfl (by unfold b_law_lots; simp only [okS, okE, okA, okO, okT, okK, okV, okI, okG, okGs, okSJs, okSJ, okSA, okSB, bltHc, forHc, eq_self, and_true, true_and, and_self]) m_law_lots.o
  have C28 : CallOk P w K mg base 1 (Str.ofString "_law_terms") 4 [] sp_law_terms := CallOk.of (k := 0) D28 X G d_law_terms hbn rfl (by unfold b_law_terms; simp only [okS, okE, okA, okO, okT, okK, okV, okI, okG, okGs, okSJs, okSJ, okSA, okSB, bltHc, forHc, eq_self, and_true, true_and, and_self]) m_law_terms.o
  have C31 : CallOk P w K mg base 1 (Str.ofString "_law_lowest") 2 [] sp_law_lowest := CallOk.of (k := 0) D31 X G d_law_lowest hbn rfl (by unfold b_law_lowest; simp only [okS, okE, okA, okO, okT, okK, okV, okI, okG, okGs, okSJs, okSJ, okSA, okSB, bltHc, forHc, eq_self, and_true, true_and, and_self]) m_law_lowest.o
  have C2 : CallOk P w K mg base 2 (Str.ofString "members_count") 1 [] sp_members_count := CallOk.of (k := 1) D2 X G d_members_count hbn rfl (by unfold b_members_count; simp only [okS, okE, okA, okO, okT, okK, okV, okI, okG, okGs, okSJs, okSJ, okSA, okSB, bltHc, forHc, eq_self, and_true, true_and, and_self, (C1.up (j := 1) (by decide)).cal]) m_members_count.o
  have C6 : CallOk P w K mg base 2 (Str.ofString "made_step") 4 [] sp_made_step := CallOk.of (k := 1) D6 X G d_made_step hbn rfl (by unfold b_made_step; simp only [okS, okE, okA, okO, okT, okK, okV, okI, okG, okGs, okSJs, okSJ, okSA, okSB, bltHc, forHc, eq_self, and_true, true_and, and_self, (C1.up (j := 1) (by decide)).cal]) m_made_step.o
  have C11 : CallOk P w K mg base 2 (Str.ofString "formula_size") 4 [] sp_formula_size := CallOk.of (k := 1) D11 X G d_formula_size hbn rfl (by unfold b_formula_size; simp only [okS, okE, okA, okO, okT, okK, okV, okI, okG, okGs, okSJs, okSJ, okSA, okSB, bltHc, forHc, eq_self, and_true, true_and, and_self, (C10.up (j := 1) (by decide)).cal]) m_formula_size.o
  have C12 : CallOk P w K mg base 2 (Str.ofString "formula_moves") 5 [] sp_formula_moves := CallOk.of (k := 1) D12 X G d_formula_moves hbn rfl (by unfold b_formula_moves; simp only [okS, okE, okA, okO, okT, okK, okV, okI, okG, okGs, okSJs, okSJ, okSA, okSB, bltHc, forHc, eq_self, and_true, true_and, and_self, (C10.up (j := 1) (by decide)).cal]) m_formula_moves.o
  have C14 : CallOk P w K mg base 2 (Str.ofString "fraction_of") 2 [] sp_fraction_of := CallOk.of (k := 1) D14 X G d_fraction_of hbn rfl (by unfold b_fraction_of; simp only [okS, okE, okA, okO, okT, okK, okV, okI, okG, okGs, okSJs, okSJ, okSA, okSB, bltHc, forHc, eq_self, and_true, true_and, and_self, (C15.up (j := 1) (by decide)).cal]) m_fraction_of.o
  have C21 : CallOk P w K mg base 2 (Str.ofString "_law_number") 2 [] sp_law_number := CallOk.of (k := 1) D21 X G d_law_number hbn rfl (by unfold b_law_number; simp only [okS, okE, okA, okO, okT, okK, okV, okI, okG, okGs, okSJs, okSJ, okSA, okSB, bltHc, forHc, eq_self, and_true, true_and, and_self, (C20.up (j := 1) (by decide)).cal]) m_law_number.o
  have C23 : CallOk P w K mg base 2 (Str.ofString "_law_same") 2 [] sp_law_same := CallOk.of (k := 1) D23 X G d_law_same hbn rfl (by unfold b_law_same; simp only [okS, okE, okA, okO, okT, okK, okV, okI, okG, okGs, okSJs, okSJ, okSA, okSB, bltHc, forHc, eq_self, and_true, true_and, and_self, (C22.up (j := 1) (by decide)).cal]) m_law_same.o
  have H23 : CallH P w K mg base 2 (Str.ofString "_law_same") 2 sp_law_same := CallH.of (k := 1) D23 X G d_law_same hbn rfl (by unfold b_law_same; simp only [okS, okE, okA, okO, okT, okK, okV, okI, okG, okGs, bltHc, forHc, and_true, true_and, and_self, (H22.up (j := 1) (by decide)).cal]) m_law_same.o
  have C25 : CallOk P w K mg base 2 (Str.ofString "_law_steps") 5 [] sp_law_steps := CallOk.of (k := 1) D25 X G d_law_steps hbn rfl (by unfold b_law_steps; simp only [okS, okE, okA, okO, okT, okK, okV, okI, okG, okGs, okSJs, okSJ, okSA, okSB, bltHc, forHc, eq_self, and_true, true_and, and_self, (C24.up (j := 1) (by decide)).cal]) m_law_steps.o
  have C3 : CallOk P w K mg base 3 (Str.ofString "lots_of") 2 [] sp_lots_of := CallOk.of (k := 2) D3 X G d_lots_of hbn rfl (by unfold b_lots_of; simp only [okS, okE, okA, okO, okT, okK, okV, okI, okG, okGs, okSJs, okSJ, okSA, okSB, bltHc, forHc, eq_self, and_true, true_and, and_self, (C2.up (j := 2) (by decide)).cal]) m_lots_of.o
  have C16 : CallOk P w K mg base 3 (Str.ofString "corners_of") 2 [] sp_corners_of := CallOk.of (k := 2) D16 X G d_corners_of hbn rfl (by unfold b_corners_of; simp only [okS, okE, okA, okO, okT, okK, okV, okI, okG, okGs, okSJs, okSJ, okSA, okSB, bltHc, forHc, eq_self, and_true, true_and, and_self, (C11.up (j := 2) (by decide)).cal, (C14.up (j := 2) (by decide)).cal]) m_corners_of.o
  have C17 : CallOk P w K mg base 3 (Str.ofString "least_help") 4 [] sp_least_help := CallOk.of (k := 2) D17 X G d_least_help hbn rfl (by unfold b_least_help; simp only [okS, okE, okA, okO, okT, okK, okV, okI, okG, okGs, okSJs, okSJ, okSA, okSB, bltHc, forHc, eq_self, and_true, true_and, and_self, (C11.up (j := 2) (by decide)).cal]) m_least_help.o
  have C18 : CallOk P w K mg base 3 (Str.ofString "least_room") 4 [] sp_least_room := CallOk.of (k := 2) D18 X G d_least_room hbn rfl (by unfold b_least_room; simp only [okS, okE, okA, okO, okT, okK, okV, okI, okG, okGs, okSJs, okSJ, okSA, okSB, bltHc, forHc, eq_self, and_true, true_and, and_self, (C11.up (j := 2) (by decide)).cal]) m_least_room.o
  have C26 : CallOk P w K mg base 3 (Str.ofString "_law_made") 6 [] sp_law_made := CallOk.of (k := 2) D26 X G d_law_made hbn rfl (by unfold b_law_made; simp only [okS, okE, okA, okO, okT, okK, okV, okI, okG, okGs, okSJs, okSJ, okSA, okSB, bltHc, forHc, eq_self, and_true, true_and, and_self, (C25.up (j := 2) (by decide)).cal, (C24.up (j := 2) (by decide)).cal]) m_law_made.o
  have C29 : CallOk P w K mg base 3 (Str.ofString "_law_formulas_right") 5 [] sp_law_formulas_right := CallOk.of (k := 2) D29 X G d_law_formulas_right hbn rfl (by unfold b_law_formulas_right; simp only [okS, okE, okA, okO, okT, okK, okV, okI, okG, okGs, okSJs, okSJ, okSA, okSB, bltHc, forHc, eq_self, and_true, true_and, and_self, (C28.up (j := 2) (by decide)).cal, (C20.up (j := 2) (by decide)).cal, (C23.up (j := 2) (by decide)).cal, (C11.up (j := 2) (by decide)).cal, (C13.up (j := 2) (by decide)).cal, (C12.up (j := 2) (by decide)).cal]) m_law_formulas_right.o
  have C7 : CallOk P w K mg base 4 (Str.ofString "helper_steps") 5 [] sp_helper_steps := CallOk.of (k := 3) D7 X G d_helper_steps hbn rfl (by unfold b_helper_steps; simp only [okS, okE, okA, okO, okT, okK, okV, okI, okG, okGs, okSJs, okSJ, okSA, okSB, bltHc, forHc, eq_self, and_true, true_and, and_self, (C6.up (j := 3) (by decide)).cal, (C3.up (j := 3) (by decide)).cal]) m_helper_steps.o
  have C30 : CallOk P w K mg base 4 (Str.ofString "_law_least_right") 5 [] sp_law_least_right := CallOk.of (k := 3) D30 X G d_law_least_right hbn rfl (by unfold b_law_least_right; simp only [okS, okE, okA, okO, okT, okK, okV, okI, okG, okGs, okSJs, okSJ, okSA, okSB, bltHc, forHc, eq_self, and_true, true_and, and_self, (C28.up (j := 3) (by decide)).cal, (C17.up (j := 3) (by decide)).cal, (C18.up (j := 3) (by decide)).cal, (C21.up (j := 3) (by decide)).cal, (C22.up (j := 3) (by decide)).cal]) m_law_least_right.o
  have C32 : CallOk P w K mg base 4 (Str.ofString "_law_corners_right") 2 [] sp_law_corners_right := CallOk.of (k := 3) D32 X G d_law_corners_right hbn rfl (by unfold b_law_corners_right; simp only [okS, okE, okA, okO, okT, okK, okV, okI, okG, okGs, okSJs, okSJ, okSA, okSB, bltHc, forHc, eq_self, and_true, true_and, and_self, (C23.up (j := 3) (by decide)).cal, (C16.up (j := 3) (by decide)).cal, (C28.up (j := 3) (by decide)).cal, (C31.up (j := 3) (by decide)).cal]) m_law_corners_right.o
  have C8 : CallOk P w K mg base 5 (Str.ofString "symmetric_book") 5 [] sp_symmetric_book := CallOk.of (k := 4) D8 X G d_symmetric_book hbn rfl (by unfold b_symmetric_book; simp only [okS, okE, okA, okO, okT, okK, okV, okI, okG, okGs, okSJs, okSJ, okSA, okSB, bltHc, forHc, eq_self, and_true, true_and, and_self, ((XE_BadCall base).call (j := 4) (by decide)).cal, (show GlOk K mg (Str.ofString "BOXES_MOST") k_BOXES_MOST from ⟨_, L2.V.int 8, PySem.W.mg_of X G gc_BOXES_MOST, ⟨_, rfl⟩, fun H => rfl⟩), (show GlOk K mg (Str.ofString "MOVES_MOST") k_MOVES_MOST from ⟨_, L2.V.int 150, PySem.W.mg_of X G gc_MOVES_MOST, ⟨_, rfl⟩, fun H => rfl⟩), (C3.up (j := 4) (by decide)).cal, (C4.up (j := 4) (by decide)).cal, (C7.up (j := 4) (by decide)).cal, (C5.up (j := 4) (by decide)).cal]) m_symmetric_book.o
  have C9 : CallOk P w K mg base 5 (Str.ofString "choosing_book") 5 [] sp_choosing_book := CallOk.of (k := 4) D9 X G d_choosing_book hbn rfl (by unfold b_choosing_book; simp only [okS, okE, okA, okO, okT, okK, okV, okI, okG, okGs, okSJs, okSJ, okSA, okSB, bltHc, forHc, eq_self, and_true, true_and, and_self, ((XE_BadCall base).call (j := 4) (by decide)).cal, (show GlOk K mg (Str.ofString "BOXES_MOST") k_BOXES_MOST from ⟨_, L2.V.int 8, PySem.W.mg_of X G gc_BOXES_MOST, ⟨_, rfl⟩, fun H => rfl⟩), (C5.up (j := 4) (by decide)).cal, (C7.up (j := 4) (by decide)).cal, (C4.up (j := 4) (by decide)).cal, (C3.up (j := 4) (by decide)).cal]) m_choosing_book.o
  have C27 : CallOk P w K mg base 6 (Str.ofString "_law_book_right") 5 [] sp_law_book_right := CallOk.of (k := 5) D27 X G d_law_book_right hbn rfl (by unfold b_law_book_right; simp only [okS, okE, okA, okO, okT, okK, okV, okI, okG, okGs, okSJs, okSJ, okSA, okSB, bltHc, forHc, eq_self, and_true, true_and, and_self, ((XE_BadCall base).call (j := 5) (by decide)).cal, (C9.up (j := 5) (by decide)).cal, (C8.up (j := 5) (by decide)).cal, (C23.up (j := 5) (by decide)).cal, (C26.up (j := 5) (by decide)).cal, (H23.up (j := 5) (by decide)).cal]) m_law_book_right.o
  exact law_ok (k := 6) FL d_law hbn (by unfold b_law; simp only [okS, okE, okA, okO, okT, okK, okV, okI, okG, okGs, okSJs, okSJ, okSA, okSB, bltHc, forHc, eq_self, and_true, true_and, and_self, (C19.up (j := 6) (by decide)).cal, (C21.up (j := 6) (by decide)).cal, (C20.up (j := 6) (by decide)).cal, (C27.up (j := 6) (by decide)).cal, (C29.up (j := 6) (by decide)).cal, (C30.up (j := 6) (by decide)).cal, (C32.up (j := 6) (by decide)).cal]) m_law.o (fun ns Q E hq => ⟨⟨ns, rfl⟩, hq⟩)
end K10

open PySem PySem.W PyProof.Rows
set_option maxHeartbeats 0 in
theorem PySem.Challenge.cw_everrebuilt_k10_symmetric_books_and_form_holds : PySem.Challenge.rw_everrebuilt_k10_symmetric_books_and_form.Holds := by
  w_on; o_law; k_head; (case hw => w_witness2)
  k_fill
  refine L2.walk_of (l := PySem.Challenge.rw_everrebuilt_k10_symmetric_books_and_form) (n := 63) (k := 7) (x := "script") (CX := fun w => L2N.CX PySem.Challenge.rw_everrebuilt_k10_symmetric_books_and_form.prog w) (sp := fun w => Zd.spTop _) rfl (by decide) rfl ⟨rfl, by decide, by decide⟩ (fun w h Y => PySem.W.kIn_of Y) ?F
    (fun w H a ns hln hO hS => ⟨a, ns, rfl, Zd.sqF_of hO hS, fun v H' e => e⟩) (fun _ _ _ _ _ ⟨_, _, _, _, _, _, _, _, _, _, _, _, z⟩ => z)
  case F =>
    intro w mg fa h KX G hmg
    refine' K10.all_mk KX G hmg ?a1 ?l1 ?c1 ?k1 ?a2 ?l2 ?c2 ?k2 ?a3 ?l3 ?c3 ?k3 ?a4 ?l4 ?c4 ?k4 ?a5 ?l5 ?c5 ?k5 ?a6 ?l6 ?c6 ?k6 ?a7 ?l7 ?c7 ?k7 ?a8 ?l8 ?c8 ?k8 ?a9 ?l9 ?c9 ?k9 ?a10 ?l10 ?c10 ?k10 ?a11 ?l11 ?c11 ?k11 ?a12 ?l12 ?c12 ?k12 ?a13 ?l13 ?c13 ?k13 ?a14 ?l14 ?c14 ?k14 ?a15 ?l15 ?c15 ?k15 ?a16 ?l16 ?c16 ?k16 ?a17 ?l17 ?c17 ?k17 ?a18 ?l18 ?c18 ?k18 ?a19 ?l19 ?c19 ?k19 ?a20 ?l20 ?c20 ?k20 ?a21 ?l21 ?c21 ?k21 ?a22 ?l22 ?c22 ?k22 ?a23 ?l23 ?c23 ?k23 ?a24 ?l24 ?c24 ?k24 ?a25 ?l25 ?c25 ?k25 ?a26 ?l26 ?c26 ?k26 ?a27 ?l27 ?c27 ?k27 ?a28 ?l28 ?c28 ?k28 ?a29 ?l29 ?c29 ?k29 ?a30 ?l30 ?c30 ?k30 ?a31 ?l31 ?c31 ?k31 ?a32 ?l32 ?c32 ?k32 ?a33 ?l33 ?c33 ?k33 ?aC_BadCall ?xL_BadCall ?rb_BadCall ?sa_BadCall ?ga_BadCall ?gg_BadCall ?nb0_BadCall ?iC_BadCall ?tI_BadCall ?lI_BadCall ?cI_BadCall ?kI_BadCall ?kC_BadCall ?eC_BadCall ?tC_BadCall ?hC_BadCall ?jC_BadCall ?sC_BadCall ?g1 ?gc_BOXES_MOST ?gc_MOVES_MOST ?z1 ?z2 ?z3 ?z4 ?z5 ?z6 ?z7 ?z8 ?z9 ?z10 ?z11 ?z12 ?z13
    (case a1 => k_is); (case l1 => k_is); (case c1 => k_is); (case k1 => k_is); (case a2 => k_is); (case l2 => k_is); (case c2 => k_is); (case k2 => k_is); (case a3 => k_is); (case l3 => k_is); (case c3 => k_is); (case k3 => k_is); (case a4 => k_is); (case l4 => k_is); (case c4 => k_is); (case k4 => k_is); (case a5 => k_is); (case l5 => k_is); (case c5 => k_is); (case k5 => k_is); (case a6 => k_is); (case l6 => k_is); (case c6 => k_is); (case k6 => k_is); (case a7 => k_is); (case l7 => k_is); (case c7 => k_is); (case k7 => k_is); (case a8 => k_is); (case l8 => k_is); (case c8 => k_is); (case k8 => k_is); (case a9 => k_is); (case l9 => k_is); (case c9 => k_is); (case k9 => k_is); (case a10 => k_is); (case l10 => k_is); (case c10 => k_is); (case k10 => k_is); (case a11 => k_is); (case l11 => k_is); (case c11 => k_is); (case k11 => k_is); (case a12 => k_is); (case l12 => k_is); (case c12 => k_is); (case k12 => k_is); (case a13 => k_is); (case l13 => k_is); (case c13 => k_is); (case k13 => k_is); (case a14 => k_is); (case l14 => k_is); (case c14 => k_is); (case k14 => k_is); (case a15 => k_is); (case l15 => k_is); (case c15 => k_is); (case k15 => k_is); (case a16 => k_is); (case l16 => k_is); (case c16 => k_is); (case k16 => k_is); (case a17 => k_is); (case l17 => k_is); (case c17 => k_is); (case k17 => k_is); (case a18 => k_is); (case l18 => k_is); (case c18 => k_is); (case k18 => k_is); (case a19 => k_is); (case l19 => k_is); (case c19 => k_is); (case k19 => k_is); (case a20 => k_is); (case l20 => k_is); (case c20 => k_is); (case k20 => k_is); (case a21 => k_is); (case l21 => k_is); (case c21 => k_is); (case k21 => k_is); (case a22 => k_is); (case l22 => k_is); (case c22 => k_is); (case k22 => k_is); (case a23 => k_is); (case l23 => k_is); (case c23 => k_is); (case k23 => k_is); (case a24 => k_is); (case l24 => k_is); (case c24 => k_is); (case k24 => k_is); (case a25 => k_is); (case l25 => k_is); (case c25 => k_is); (case k25 => k_is); (case a26 => k_is); (case l26 => k_is); (case c26 => k_is); (case k26 => k_is); (case a27 => k_is); (case l27 => k_is); (case c27 => k_is); (case k27 => k_is); (case a28 => k_is); (case l28 => k_is); (case c28 => k_is); (case k28 => k_is); (case a29 => k_is); (case l29 => k_is); (case c29 => k_is); (case k29 => k_is); (case a30 => k_is); (case l30 => k_is); (case c30 => k_is); (case k30 => k_is); (case a31 => k_is); (case l31 => k_is); (case c31 => k_is); (case k31 => k_is); (case a32 => k_is); (case l32 => k_is); (case c32 => k_is); (case k32 => k_is); (case a33 => k_is); (case l33 => k_is); (case c33 => k_is); (case k33 => k_is); (case aC_BadCall => k_is); (case xL_BadCall => k_is); (case rb_BadCall => first | rfl | k_is | decide +kernel); (case sa_BadCall => k_is); (case ga_BadCall => k_is); (case gg_BadCall => k_is); (case nb0_BadCall => k_is); (case iC_BadCall => k_is); (case tI_BadCall => k_is); (case lI_BadCall => k_is); (case cI_BadCall => k_is); (case kI_BadCall => k_is); (case kC_BadCall => k_is); (case eC_BadCall => k_is); (case tC_BadCall => k_is); (case hC_BadCall => k_is); (case jC_BadCall => first | rfl | k_is | decide +kernel); (case sC_BadCall => first | rfl | k_is | decide +kernel); (case g1 => k_is); (case gc_BOXES_MOST => k_is); (case gc_MOVES_MOST => k_is); (case z1 => k_is); (case z2 => k_is); (case z3 => k_is); (case z4 => k_is); (case z5 => k_is); (case z6 => k_is); (case z7 => k_is); (case z8 => k_is); (case z9 => k_is); (case z10 => k_is); (case z11 => k_is); (case z12 => k_is); (case z13 => k_is)
