import PyProof.Rows.All
import Wide.All
import OpenK.AllK
import Wide.FinOn
import KE.KStateDown
import Lean
import HandS.Base
import HandS.Call
import HandS.Ends
import HandS.More
import HandS.Words
import HandS.WordsExc
import HandS.Defaults
import HandS.Head0
import HandS.Head1
import HandS.Head2
import HandS.HeadEnd
import HandS.HeadHook1
import HandS.HeadHook2
import HandS.ForMost
import HandS.ForExc
import HandS.Deep
import HandS.TupLe
import HandS.IsInst
import HandS.SetKeys
import HandS.SortInts
import HandS.Style
import HandS.Wide
import HandS.Flow
import HandS.Conv
import PySem.Challenge.RW_folklist_k01_enough_and_longest
set_option Elab.async false
set_option linter.all false
set_option maxRecDepth 100000
set_option maxHeartbeats 4000000
/-! ## The value layer: tuples and frozen lists as values, a small heap of what may change -/
namespace WL
open PySem L2

/-- a value: scr: the script (a list of ints that stays); tup, fls: a tuple, a list that is never changed again, by what they hold; ref: an object by its address -/
inductive W where
  | non | bl (b : Bool) | int (i : Int) | str (x : Str) | ref (a : Addr) | scr (ns : List Int) | tup (xs : List W) | fls (xs : List W)
/-- what may change -/
inductive HW where
  | lst (xs : List W)
  | dct (kvs : List (Key × W))
  | ins (C : Addr) (fs : List (Str × W))
abbrev Hw := Addr → Option HW
abbrev Sw := List (Option W)

mutual
def RelW (K : PySem.W.Frag) (F : Hp) : W → V → Prop
  | .non, v => v = .non
  | .bl b, v => v = .bl b
  | .int i, v => v = .int i
  | .str x, v => v = .str x
  | .ref a, v => v = .ref a
  | .scr ns, v => ∃ a, v = .ref a ∧ SqL K F a (ns.map V.int)
  | .tup xs, v => ∃ a vs, v = .ref a ∧ F a = some (.tup vs) ∧ RelWs K F xs vs
  | .fls xs, v => ∃ a vs, v = .ref a ∧ F a = some (.lst vs) ∧ RelWs K F xs vs
def RelWs (K : PySem.W.Frag) (F : Hp) : List W → List V → Prop
  | [], vs => vs = []
  | x :: xs, vs => ∃ v r, vs = v :: r ∧ RelW K F x v ∧ RelWs K F xs r
end
section
variable {K : PySem.W.Frag} {F F1 : Hp}
mutual
theorem RelW.mono (s : Same F F1) : ∀ (w : W) {v : V}, RelW K F w v → RelW K F1 w v
  | .non, _, h => h
  | .bl _, _, h => h
  | .int _, _, h => h
  | .str _, _, h => h
  | .ref _, _, h => h
  | .scr _, _, ⟨a, e, h⟩ => ⟨a, e, s.seq h⟩
  | .tup xs, _, ⟨a, vs, e, h, r⟩ => ⟨a, vs, e, s _ _ h, RelWs.mono s xs r⟩
  | .fls xs, _, ⟨a, vs, e, h, r⟩ => ⟨a, vs, e, s _ _ h, RelWs.mono s xs r⟩
theorem RelWs.mono (s : Same F F1) : ∀ (ws : List W) {vs : List V}, RelWs K F ws vs → RelWs K F1 ws vs
  | [], _, h => h
  | x :: xs, _, ⟨v, r, e, h, t⟩ => ⟨v, r, e, RelW.mono s x h, RelWs.mono s xs t⟩
end
theorem RelWs.nil : RelWs K F [] [] := rfl
theorem RelWs.cons {w : W} {v : V} {ws : List W} {vs : List V} (h : RelW K F w v) (t : RelWs K F ws vs) : RelWs K F (w :: ws) (v :: vs) := ⟨v, vs, rfl, h, t⟩
theorem RelWs.length : ∀ {ws : List W} {vs : List V}, RelWs K F ws vs → ws.length = vs.length
  | [], _, h => by
    have e : _ = [] := h
    rw [e]
    rfl
  | w :: ws, _, ⟨v, r, e, _, t⟩ => by
    rw [e, List.length_cons, List.length_cons, RelWs.length t]
theorem RelWs.append : ∀ {ws ws' : List W} {vs vs' : List V}, RelWs K F ws vs → RelWs K F ws' vs' → RelWs K F (ws ++ ws') (vs ++ vs')
  | [], _, _, _, h, t => by
    have e : _ = [] := h
    rw [e]
    exact t
  | w :: ws, _, _, _, ⟨v, r, e, h, t⟩, t' => by
    rw [e]
    exact .cons h (RelWs.append t t')
theorem RelWs.get : ∀ {ws : List W} {vs : List V} {i : Nat} {w : W}, RelWs K F ws vs → ws[i]? = some w → ∃ v, vs[i]? = some v ∧ RelW K F w v
  | [], _, _, _, _, h => by simp at h
  | w :: ws, _, 0, w', ⟨v, r, e, h, t⟩, q => by
    have e2 : w = w' := Option.some.inj q
    rw [e, ← e2]
    exact ⟨v, rfl, h⟩
  | w :: ws, _, i + 1, w', ⟨v, r, e, h, t⟩, q => by
    rw [e]
    exact RelWs.get (i := i) t q
theorem RelWs.take : ∀ {ws : List W} {vs : List V} (n : Nat), RelWs K F ws vs → RelWs K F (ws.take n) (vs.take n)
  | [], _, n, h => by
    have e : _ = [] := h
    rw [e, List.take_nil, List.take_nil]
    exact .nil
  | _ :: _, _, 0, _ => by
    rw [List.take_zero, List.take_zero]
    exact .nil
  | w :: ws, _, n + 1, ⟨v, r, e, h, t⟩ => by
    rw [e]
    exact .cons h (RelWs.take n t)
theorem RelWs.drop : ∀ {ws : List W} {vs : List V} (n : Nat), RelWs K F ws vs → RelWs K F (ws.drop n) (vs.drop n)
  | [], _, n, h => by
    have e : _ = [] := h
    rw [e, List.drop_nil, List.drop_nil]
    exact .nil
  | w :: ws, _, 0, h => h
  | w :: ws, _, n + 1, ⟨v, r, e, h, t⟩ => by
    rw [e]
    exact RelWs.drop n t
theorem RelWs.eraseIdx : ∀ {ws : List W} {vs : List V} (n : Nat), RelWs K F ws vs → RelWs K F (ws.eraseIdx n) (vs.eraseIdx n)
  | [], _, n, h => by
    have e : _ = [] := h
    rw [e]
    exact .nil
  | w :: ws, _, 0, ⟨v, r, e, h, t⟩ => by
    rw [e]
    exact t
  | w :: ws, _, n + 1, ⟨v, r, e, h, t⟩ => by
    rw [e]
    exact .cons h (RelWs.eraseIdx n t)
theorem RelWs.reverse : ∀ {ws : List W} {vs : List V}, RelWs K F ws vs → RelWs K F ws.reverse vs.reverse
  | [], _, h => by
    have e : _ = [] := h
    rw [e]
    exact .nil
  | w :: ws, _, ⟨v, r, e, h, t⟩ => by
    rw [e, List.reverse_cons, List.reverse_cons]
    exact (RelWs.reverse t).append (.cons h .nil)
theorem RelWs.ints : ∀ {ns : List Int} {vs : List V}, RelWs K F (ns.map W.int) vs → vs = ns.map V.int
  | [], _, h => h
  | n :: ns, _, ⟨v, r, e, h, t⟩ => by
    have e1 : v = V.int n := h
    rw [e, e1, RelWs.ints t]
    rfl
theorem RelWs.of_ints : ∀ ns : List Int, RelWs K F (ns.map W.int) (ns.map V.int)
  | [] => rfl
  | n :: ns => .cons (show RelW K F (.int n) (.int n) from rfl) (RelWs.of_ints ns)
theorem RelWs.one {w : W} {vs : List V} (h : RelWs K F [w] vs) : ∃ v, vs = [v] ∧ RelW K F w v := by
  obtain ⟨v, r, e, h, t⟩ := h
  have er : r = [] := t
  rw [er] at e
  exact ⟨v, e, h⟩
theorem RelWs.two {w w' : W} {vs : List V} (h : RelWs K F [w, w'] vs) : ∃ v v', vs = [v, v'] ∧ RelW K F w v ∧ RelW K F w' v' := by
  obtain ⟨v, r, e, h, t⟩ := h
  obtain ⟨v', er, h'⟩ := RelWs.one t
  rw [er] at e
  exact ⟨v, v', e, h, h'⟩
end

/-- the pairs of a dict, of an instance -/
def RelKs (K : PySem.W.Frag) (F : Hp) {α : Type} : List (α × W) → List (α × V) → Prop
  | [], vs => vs = []
  | x :: xs, vs => ∃ v r, vs = (x.1, v) :: r ∧ RelW K F x.2 v ∧ RelKs K F xs r
section
variable {K : PySem.W.Frag} {F F1 : Hp} {α : Type}
theorem RelKs.mono (s : Same F F1) : ∀ {ws : List (α × W)} {vs : List (α × V)}, RelKs K F ws vs → RelKs K F1 ws vs
  | [], _, h => h
  | _ :: _, _, ⟨v, r, e, h, t⟩ => ⟨v, r, e, RelW.mono s _ h, RelKs.mono s t⟩
theorem RelKs.length : ∀ {ws : List (α × W)} {vs : List (α × V)}, RelKs K F ws vs → ws.length = vs.length
  | [], _, h => by
    have e : _ = [] := h
    rw [e]
    rfl
  | _ :: _, _, ⟨v, r, e, _, t⟩ => by
    rw [e, List.length_cons, List.length_cons, RelKs.length t]
end

/-- an object as it stands below -/
def RelH (K : PySem.W.Frag) (F : Hp) (o : Option HO) : HW → Prop
  | .lst xs => ∃ vs, o = some (.lst vs) ∧ RelWs K F xs vs
  | .dct kvs => ∃ vs, o = some (.dK vs) ∧ RelKs K F kvs vs
  | .ins C fs => ∃ dx vs, o = some (.ins C dx vs) ∧ RelKs K F fs vs
theorem RelH.mono {K : PySem.W.Frag} {F F1 : Hp} (s : Same F F1) {o : Option HO} : ∀ {w : HW}, RelH K F o w → RelH K F1 o w
  | .lst _, ⟨vs, e, r⟩ => ⟨vs, e, RelWs.mono s _ r⟩
  | .dct _, ⟨vs, e, r⟩ => ⟨vs, e, r.mono s⟩
  | .ins _ _, ⟨dx, vs, e, r⟩ => ⟨dx, vs, e, r.mono s⟩
/-- the heap below: F frozen, H' what may change -/
structure AbH (K : PySem.W.Frag) (F : Hp) (H' : Hw) (H : Hp) : Prop where
  sub : Same F H
  obj : ∀ a o, H' a = some o → F a = none ∧ RelH K F (H a) o

def updW (H : Hw) (a : Addr) (o : HW) : Hw := fun b => if b = a then some o else H b
theorem updW_same {H : Hw} {a : Addr} {o : HW} : updW H a o a = some o := by unfold updW; rw [if_pos rfl]
theorem updW_ne {H : Hw} {a b : Addr} {o : HW} (h : b ≠ a) : updW H a o b = H b := by unfold updW; rw [if_neg h]
theorem neW_of {H : Hw} {a b : Addr} {o u : HW} (h : H a = some o) (h' : H b = some u) (d : o ≠ u) : a ≠ b := by
  intro e; subst e; rw [h] at h'; exact d (Option.some.inj h')
theorem neW_none {H : Hw} {a b : Addr} {o : HW} (h : H a = some o) (h' : H b = none) : a ≠ b := by
  intro e; subst e; rw [h] at h'; cases h'

section
variable {K : PySem.W.Frag} {F : Hp} {H' : Hw} {H : Hp} {a : Addr}
theorem same_upd {p : Addr} {o : HO} (h : H p = none) : Same H (upd H p o) := fun b x e => by
  rw [upd_ne (ne_of_none e h)]
  exact e
theorem AbH.noF (A : AbH K F H' H) (h : H a = none) : F a = none := A.sub.free h
theorem AbH.noH (A : AbH K F H' H) (h : H a = none) : H' a = none := by
  cases e : H' a with
  | none => rfl
  | some o =>
    obtain ⟨_, r⟩ := A.obj a o e
    rw [h] at r
    cases o with
    | lst _ => obtain ⟨_, q, _⟩ := r; cases q
    | dct _ => obtain ⟨_, q, _⟩ := r; cases q
    | ins _ _ => obtain ⟨_, _, q, _⟩ := r; cases q
/-- what is written is an object of ours -/
theorem AbH.write (A : AbH K F H' H) {u : HW} {o : HO} {w : HW} (h : H' a = some u) (r : RelH K F (some o) w) : AbH K F (updW H' a w) (upd H a o) := by
  have na := (A.obj a u h).1
  refine ⟨fun b x e => ?_, fun b x e => ?_⟩
  · rw [upd_ne (ne_of_none e na)]
    exact A.sub b x e
  · by_cases hb : b = a
    · subst hb
      rw [updW_same] at e
      cases e
      rw [upd_same]
      exact ⟨na, r⟩
    · rw [updW_ne hb] at e
      rw [upd_ne hb]
      exact A.obj b x e
/-- a new object of ours -/
theorem AbH.new (A : AbH K F H' H) {o : HO} {w : HW} (h : H a = none) (r : RelH K F (some o) w) : AbH K F (updW H' a w) (upd H a o) := by
  refine ⟨fun b x e => ?_, fun b x e => ?_⟩
  · rw [upd_ne (ne_of_none (A.sub b x e) h)]
    exact A.sub b x e
  · by_cases hb : b = a
    · subst hb
      rw [updW_same] at e
      cases e
      rw [upd_same]
      exact ⟨A.noF h, r⟩
    · rw [updW_ne hb] at e
      rw [upd_ne hb]
      exact A.obj b x e
/-- a new object that is frozen at once, or that we never look at -/
theorem AbH.frz (A : AbH K F H' H) {o : HO} (h : H a = none) : Same F (upd F a o) ∧ AbH K (upd F a o) H' (upd H a o) := by
  have s : Same F (upd F a o) := same_upd (A.noF h)
  refine ⟨s, fun b x e => ?_, fun b x e => ?_⟩
  · by_cases hb : b = a
    · subst hb
      rw [upd_same] at e ⊢
      exact e
    · rw [upd_ne hb] at e ⊢
      exact A.sub b x e
  · obtain ⟨n, r⟩ := A.obj b x e
    have hb : b ≠ a := fun q => by
      rw [q, A.noH h] at e
      cases e
    rw [upd_ne hb, upd_ne hb]
    exact ⟨n, r.mono s⟩
theorem AbH.skip (A : AbH K F H' H) {o : HO} (h : H a = none) : AbH K F H' (upd H a o) := by
  refine ⟨fun b x e => ?_, fun b x e => ?_⟩
  · rw [upd_ne (ne_of_none (A.sub b x e) h)]
    exact A.sub b x e
  · have hb : b ≠ a := fun q => by
      rw [q, A.noH h] at e
      cases e
    rw [upd_ne hb]
    exact A.obj b x e
theorem AbH.list (A : AbH K F H' H) {xs : List W} (h : H' a = some (.lst xs)) : ∃ vs, H a = some (.lst vs) ∧ RelWs K F xs vs := (A.obj a _ h).2
theorem AbH.dict (A : AbH K F H' H) {kvs : List (Key × W)} (h : H' a = some (.dct kvs)) : ∃ vs, H a = some (.dK vs) ∧ RelKs K F kvs vs := (A.obj a _ h).2
theorem AbH.inst (A : AbH K F H' H) {C : Addr} {fs : List (Str × W)} (h : H' a = some (.ins C fs)) : ∃ dx vs, H a = some (.ins C dx vs) ∧ RelKs K F fs vs := (A.obj a _ h).2
end

/-- the slots -/
def RelS (K : PySem.W.Frag) (F : Hp) : Sw → St → Prop
  | [], σ => σ = []
  | x :: xs, σ => ∃ v r, σ = v :: r ∧ (∀ w, x = some w → ∃ u, v = some u ∧ RelW K F w u) ∧ RelS K F xs r
section
variable {K : PySem.W.Frag} {F F1 : Hp}
theorem RelS.mono (s : Same F F1) : ∀ {ws : Sw} {σ : St}, RelS K F ws σ → RelS K F1 ws σ
  | [], _, h => h
  | _ :: _, _, ⟨v, r, e, h, t⟩ => ⟨v, r, e, fun w q => (h w q).imp fun u z => ⟨z.1, RelW.mono s _ z.2⟩, RelS.mono s t⟩
theorem RelS.length : ∀ {ws : Sw} {σ : St}, RelS K F ws σ → ws.length = σ.length
  | [], _, h => by
    have e : _ = [] := h
    rw [e]
    rfl
  | _ :: _, _, ⟨v, r, e, _, t⟩ => by rw [e, List.length_cons, List.length_cons, RelS.length t]
theorem RelS.get : ∀ {ws : Sw} {σ : St} {i : Nat} {w : W}, RelS K F ws σ → ws[i]? = some (some w) → ∃ u, σ[i]? = some (some u) ∧ RelW K F w u
  | [], _, _, _, _, h => by simp at h
  | x :: ws, _, 0, w, ⟨v, r, e, h, t⟩, q => by
    obtain ⟨u, eu, ru⟩ := h w (Option.some.inj q)
    rw [e, eu]
    exact ⟨u, rfl, ru⟩
  | x :: ws, _, i + 1, w, ⟨v, r, e, h, t⟩, q => by
    rw [e]
    exact RelS.get (i := i) t q
theorem RelS.set {w : W} {u : V} (ru : RelW K F w u) : ∀ {ws : Sw} {σ : St} (i : Nat), RelS K F ws σ → RelS K F (ws.set i (some w)) (σ.set i (some u))
  | [], _, _, h => by
    have e : _ = [] := h
    rw [e]
    exact rfl
  | x :: ws, _, 0, ⟨v, r, e, h, t⟩ => by
    rw [e]
    exact ⟨some u, r, rfl, fun w' q => ⟨u, rfl, by rw [← Option.some.inj q]; exact ru⟩, t⟩
  | x :: ws, _, i + 1, ⟨v, r, e, h, t⟩ => by
    rw [e]
    exact ⟨v, r.set i (some u), rfl, h, RelS.set ru i t⟩
theorem RelS.unset : ∀ {ws : Sw} {σ : St} (i : Nat), RelS K F ws σ → RelS K F (ws.set i none) (σ.set i none)
  | [], _, _, h => by
    have e : _ = [] := h
    rw [e]
    exact rfl
  | x :: ws, _, 0, ⟨v, r, e, h, t⟩ => by
    rw [e]
    exact ⟨none, r, rfl, (fun w' q => by cases q), t⟩
  | x :: ws, _, i + 1, ⟨v, r, e, h, t⟩ => by
    rw [e]
    exact ⟨v, r.set i none, rfl, h, RelS.unset i t⟩
/-- a slot that is no longer known -/
theorem RelS.forget : ∀ {ws : Sw} {σ : St} (i : Nat), RelS K F ws σ → RelS K F (ws.set i none) σ
  | [], _, _, h => by
    have e : _ = [] := h
    rw [e]
    exact rfl
  | x :: ws, _, 0, ⟨v, r, e, h, t⟩ => by
    rw [e]
    exact ⟨v, r, rfl, (fun w' q => by cases q), t⟩
  | x :: ws, _, i + 1, ⟨v, r, e, h, t⟩ => by
    rw [e]
    exact ⟨v, r, rfl, h, RelS.forget i t⟩
theorem RelS.start : ∀ {ws : List W} {vs : List V} (n : Nat), RelWs K F ws vs → RelS K F (ws.map some ++ List.replicate n none) (vs.map some ++ List.replicate n none)
  | [], _, n, h => by
    have e : _ = [] := h
    rw [e]
    show RelS K F (List.replicate n none) (List.replicate n none)
    induction n with
    | zero => exact rfl
    | succ n ih => exact ⟨none, _, rfl, (fun w' q => by cases q), ih⟩
  | w :: ws, _, n, ⟨v, r, e, h, t⟩ => by
    rw [e]
    exact ⟨some v, _, rfl, (fun w' q => ⟨v, rfl, by rw [← Option.some.inj q]; exact h⟩), RelS.start n t⟩
end
end WL

/-! ## Readings over the value layer, and how they are lowered -/
namespace WL
open PySem L2

abbrev KW := W → Hw → Prop
abbrev EW := Addr → Hw → Prop
abbrev TEW := Sw → Hw → KW → EW → Prop
abbrev TTW := Sw → Hw → (Bool → Hw → Prop) → EW → Prop
abbrev TAW := Sw → Hw → (List W → Hw → Prop) → EW → Prop
abbrev R2W := W → W → Hw → KW → Prop
abbrev RLW := List W → Hw → KW → Prop

def QR (K : PySem.W.Frag) (F : Hp) (Q' : KW) (Q : VK) : Prop := ∀ w H', Q' w H' → ∀ F1 v H, Same F F1 → RelW K F1 w v → AbH K F1 H' H → Q v H
def QB (K : PySem.W.Frag) (F : Hp) (Q' : Bool → Hw → Prop) (Q : Bool → Hp → Prop) : Prop := ∀ b H', Q' b H' → ∀ F1 H, Same F F1 → AbH K F1 H' H → Q b H
def QL (K : PySem.W.Frag) (F : Hp) (Q' : List W → Hw → Prop) (Q : List V → Hp → Prop) : Prop := ∀ ws H', Q' ws H' → ∀ F1 vs H, Same F F1 → RelWs K F1 ws vs → AbH K F1 H' H → Q vs H
def ER (K : PySem.W.Frag) (F : Hp) (Wx : WX) (σ : L2.St) (E' : EW) : Prop := ∀ C H', E' C H' → ∀ F1 H, Same F F1 → AbH K F1 H' H → Wx (.ref C) none σ H
section
variable {K : PySem.W.Frag} {F F1 : Hp}
theorem QR.mono {Q' : KW} {Q : VK} (q : QR K F Q' Q) (s : Same F F1) : QR K F1 Q' Q := fun w H' h F2 v H s2 => q w H' h F2 v H (s.trans s2)
theorem QB.mono {Q' : Bool → Hw → Prop} {Q : Bool → Hp → Prop} (q : QB K F Q' Q) (s : Same F F1) : QB K F1 Q' Q := fun w H' h F2 H s2 => q w H' h F2 H (s.trans s2)
theorem QL.mono {Q' : List W → Hw → Prop} {Q : List V → Hp → Prop} (q : QL K F Q' Q) (s : Same F F1) : QL K F1 Q' Q := fun w H' h F2 v H s2 => q w H' h F2 v H (s.trans s2)
theorem ER.mono {Wx : WX} {σ : L2.St} {E' : EW} (q : ER K F Wx σ E') (s : Same F F1) : ER K F1 Wx σ E' := fun w H' h F2 H s2 => q w H' h F2 H (s.trans s2)
end
def lowE (K : PySem.W.Frag) (Wx : WX) (t : TEW) : TE := fun σ H Q => ∃ F σ' H' Q' E', RelS K F σ' σ ∧ AbH K F H' H ∧ QR K F Q' Q ∧ ER K F Wx σ E' ∧ t σ' H' Q' E'
def lowT (K : PySem.W.Frag) (Wx : WX) (t : TTW) : TT := fun σ H Q => ∃ F σ' H' Q' E', RelS K F σ' σ ∧ AbH K F H' H ∧ QB K F Q' Q ∧ ER K F Wx σ E' ∧ t σ' H' Q' E'
def lowA (K : PySem.W.Frag) (Wx : WX) (t : TAW) : TA := fun σ H Q => ∃ F σ' H' Q' E', RelS K F σ' σ ∧ AbH K F H' H ∧ QL K F Q' Q ∧ ER K F Wx σ E' ∧ t σ' H' Q' E'

/-! ### weaker readings -/
theorem PE.imp {X : Cx} {e : Expr} {t t' : TE} (h : PE X e t) (i : ∀ σ H Q, t' σ H Q → t σ H Q) : PE X e t' := ⟨fun pins s σ H Q I q => h.run pins s σ H Q I (i σ H Q q)⟩
theorem PT.imp {X : Cx} {e : Expr} {t t' : TT} (h : PT X e t) (i : ∀ σ H Q, t' σ H Q → t σ H Q) : PT X e t' := ⟨fun pins s σ H Q I q => h.run pins s σ H Q I (i σ H Q q)⟩
theorem PW.imp {X : Cx} {e : Expr} {t t' : TT} (h : PW X e t) (i : ∀ σ H Q, t' σ H Q → t σ H Q) : PW X e t' := ⟨fun w pins s σ H Q I q => h.run w pins s σ H Q I (i σ H Q q)⟩
theorem PA.imp {X : Cx} {es : List Expr} {t t' : TA} (h : PA X es t) (i : ∀ σ H Q, t' σ H Q → t σ H Q) : PA X es t' := ⟨fun pos pins s σ H Q I q => h.run pos pins s σ H Q I (i σ H Q q)⟩
theorem PS.imp {X : Cx} {st : Stmt} {t t' : TS} (h : PS X st t) (i : ∀ D σ H, t' D σ H → t D σ H) : PS X st t' := ⟨fun pins s σ H D I q => h.run pins s σ H D I (i D σ H q)⟩
theorem PSs.imp {X : Cx} {st : List Stmt} {t t' : TS} (h : PSs X st t) (i : ∀ D σ H, t' D σ H → t D σ H) : PSs X st t' := ⟨fun pins s σ H D I q => h.run pins s σ H D I (i D σ H q)⟩
theorem PE.or {X : Cx} {e : Expr} {t t' : TE} (h : PE X e t) (h' : PE X e t') : PE X e (fun σ H Q => t σ H Q ∨ t' σ H Q) := ⟨fun pins s σ H Q I q => q.elim (h.run pins s σ H Q I) (h'.run pins s σ H Q I)⟩
theorem PT.or {X : Cx} {e : Expr} {t t' : TT} (h : PT X e t) (h' : PT X e t') : PT X e (fun σ H Q => t σ H Q ∨ t' σ H Q) := ⟨fun pins s σ H Q I q => q.elim (h.run pins s σ H Q I) (h'.run pins s σ H Q I)⟩
theorem PE.ex {X : Cx} {e : Expr} {α : Sort _} {t : α → TE} (h : ∀ a, PE X e (t a)) : PE X e (fun σ H Q => ∃ a, t a σ H Q) := ⟨fun pins s σ H Q I ⟨a, q⟩ => (h a).run pins s σ H Q I q⟩
theorem PE.all {X : Cx} {e : Expr} {P : Prop} {t : TE} (h : P → PE X e t) : PE X e (fun σ H Q => P ∧ t σ H Q) := ⟨fun pins s σ H Q I ⟨a, q⟩ => (h a).run pins s σ H Q I q⟩
theorem PS.or {X : Cx} {st : Stmt} {t t' : TS} (h : PS X st t) (h' : PS X st t') : PS X st (fun D σ H => t D σ H ∨ t' D σ H) := ⟨fun pins s σ H D I q => q.elim (h.run pins s σ H D I) (h'.run pins s σ H D I)⟩

/-! ### two expressions, a list of them -/
def tOpW (r : R2W) (a b : TEW) : TEW := fun σ H Q E => a σ H (fun x H1 => b σ H1 (fun y H2 => r x y H2 Q) E) E
def tUnW (r : W → Hw → KW → Prop) (a : TEW) : TEW := fun σ H Q E => a σ H (fun x H1 => r x H1 Q) E
def tNilW : TAW := fun _ H Q _ => Q [] H
def tConsW (a : TEW) (r : TAW) : TAW := fun σ H Q E => a σ H (fun x H1 => r σ H1 (fun xs H2 => Q (x :: xs) H2) E) E
def OpLow (K : PySem.W.Frag) (rW : R2W) (rV : R2) : Prop := ∀ F w w' v v' H' H Q' Q, RelW K F w v → RelW K F w' v' → AbH K F H' H → QR K F Q' Q → rW w w' H' Q' → rV v v' H Q
def UnLow (K : PySem.W.Frag) (rW : W → Hw → KW → Prop) (rV : V → Hp → VK → Prop) : Prop := ∀ F w v H' H Q' Q, RelW K F w v → AbH K F H' H → QR K F Q' Q → rW w H' Q' → rV v H Q
def ListLow (K : PySem.W.Frag) (rW : RLW) (rV : List V → Hp → VK → Prop) : Prop := ∀ F ws vs H' H Q' Q, RelWs K F ws vs → AbH K F H' H → QR K F Q' Q → rW ws H' Q' → rV vs H Q
section
variable {K : PySem.W.Frag} {Wx : WX} {σ : L2.St} {H : Hp} {Q : VK} {a b : TEW}
theorem low_op {rW : R2W} {rV : R2} (o : OpLow K rW rV) (h : lowE K Wx (tOpW rW a b) σ H Q) : tOp rV (lowE K Wx a) (lowE K Wx b) σ H Q := by
  obtain ⟨F, σ', H', Q', E', rs, ab, qr, er, h⟩ := h
  refine ⟨F, σ', H', _, E', rs, ab, fun x H1' hx F1 v H1 s1 rx ab1 => ?_, er, h⟩
  refine ⟨F1, σ', H1', _, E', rs.mono s1, ab1, fun y H2' hy F2 v' H2 s2 ry ab2 => ?_, er.mono s1, hx⟩
  exact o F2 x y v v' H2' H2 Q' Q (RelW.mono s2 x rx) ry ab2 (qr.mono (s1.trans s2)) hy
theorem low_un {rW : W → Hw → KW → Prop} {rV : V → Hp → VK → Prop} (o : UnLow K rW rV) (h : lowE K Wx (tUnW rW a) σ H Q) : tUn rV (lowE K Wx a) σ H Q := by
  obtain ⟨F, σ', H', Q', E', rs, ab, qr, er, h⟩ := h
  refine ⟨F, σ', H', _, E', rs, ab, fun x H1' hx F1 v H1 s1 rx ab1 => ?_, er, h⟩
  exact o F1 x v H1' H1 Q' Q rx ab1 (qr.mono s1) hx
theorem low_nil {Q : List V → Hp → Prop} (h : lowA K Wx tNilW σ H Q) : tNil σ H Q := by
  obtain ⟨F, σ', H', Q', E', rs, ab, qr, er, h⟩ := h
  exact qr [] H' h F [] H (Same.refl _) rfl ab
theorem low_cons {r : TAW} {Q : List V → Hp → Prop} (h : lowA K Wx (tConsW a r) σ H Q) : tCons (lowE K Wx a) (lowA K Wx r) σ H Q := by
  obtain ⟨F, σ', H', Q', E', rs, ab, qr, er, h⟩ := h
  refine ⟨F, σ', H', _, E', rs, ab, fun x H1' hx F1 v H1 s1 rx ab1 => ?_, er, h⟩
  refine ⟨F1, σ', H1', _, E', rs.mono s1, ab1, fun ys H2' hy F2 vs' H2 s2 ry ab2 => ?_, er.mono s1, hx⟩
  exact qr _ H2' hy F2 _ H2 (s1.trans s2) (.cons (RelW.mono s2 x rx) ry) ab2
/-- behind arguments: a value -/
theorem low_args {t : TAW} {rW : RLW} {rV : List V → Hp → VK → Prop} (o : ListLow K rW rV) (h : lowE K Wx (fun σ H Q E => t σ H (fun ws H1 => rW ws H1 Q) E) σ H Q) : tCB rV (lowA K Wx t) σ H Q := by
  obtain ⟨F, σ', H', Q', E', rs, ab, qr, er, h⟩ := h
  refine ⟨F, σ', H', _, E', rs, ab, fun xs H1' hx F1 vs H1 s1 rx ab1 => ?_, er, h⟩
  exact o F1 xs vs H1' H1 Q' Q rx ab1 (qr.mono s1) hx
end

/-! ### lists and tuples that are read, made -/
def seqL (H : Hw) : W → List W → Prop
  | .fls l, xs => l = xs
  | .ref a, xs => H a = some (.lst xs)
  | .scr ns, xs => xs = ns.map W.int
  | _, _ => False
/-- .. not the script -/
def seqM (H : Hw) : W → List W → Prop
  | .fls l, xs => l = xs
  | .ref a, xs => H a = some (.lst xs)
  | _, _ => False
def seqA (H : Hw) : W → List W → Prop
  | .tup l, xs => l = xs
  | w, xs => seqL H w xs
def newL (xs : List W) (H : Hw) (Q : KW) : Prop := (∀ p, H p = none → Q (.ref p) (updW H p (.lst xs))) ∨ Q (.fls xs) H
section
variable {K : PySem.W.Frag} {F : Hp} {H' : Hw} {H : Hp} {Q' : KW} {Q : VK} {w : W} {v : V} {xs : List W}
theorem seqL_low (A : AbH K F H' H) (r : RelW K F w v) (h : seqL H' w xs) : ∃ a vs, v = .ref a ∧ SqL K H a vs ∧ RelWs K F xs vs := by
  cases w with
  | fls l =>
    obtain ⟨a, vs, e, q, t⟩ := r
    have el : l = xs := h
    rw [← el]
    exact ⟨a, vs, e, SqL.of (A.sub _ _ q), t⟩
  | ref a =>
    obtain ⟨vs, e, t⟩ := A.list (show H' a = some (.lst xs) from h)
    exact ⟨a, vs, r, SqL.of e, t⟩
  | scr ns =>
    obtain ⟨a, e, q⟩ := r
    have el : xs = ns.map W.int := h
    rw [el]
    exact ⟨a, _, e, A.sub.seq q, RelWs.of_ints ns⟩
  | _ => exact (show False from h).elim
theorem seqM_low (A : AbH K F H' H) (r : RelW K F w v) (h : seqM H' w xs) : ∃ a vs, v = .ref a ∧ H a = some (.lst vs) ∧ RelWs K F xs vs := by
  cases w with
  | fls l =>
    obtain ⟨a, vs, e, q, t⟩ := r
    have el : l = xs := h
    rw [← el]
    exact ⟨a, vs, e, A.sub _ _ q, t⟩
  | ref a =>
    obtain ⟨vs, e, t⟩ := A.list (show H' a = some (.lst xs) from h)
    exact ⟨a, vs, r, e, t⟩
  | _ => exact (show False from h).elim
theorem seqA_low (A : AbH K F H' H) (r : RelW K F w v) (h : seqA H' w xs) : ∃ a vs, v = .ref a ∧ (SqL K H a vs ∨ SqT K H a vs) ∧ RelWs K F xs vs := by
  cases w with
  | tup l =>
    obtain ⟨a, vs, e, q, t⟩ := r
    have el : l = xs := h
    rw [← el]
    exact ⟨a, vs, e, .inr (SqT.of (A.sub _ _ q)), t⟩
  | _ =>
    obtain ⟨a, vs, e, q, t⟩ := seqL_low A r h
    exact ⟨a, vs, e, .inl q, t⟩
theorem newL_low (A : AbH K F H' H) (q : QR K F Q' Q) {vs : List V} (r : RelWs K F xs vs) (h : newL xs H' Q') : ∀ p, H p = none → Q (.ref p) (upd H p (.lst vs)) := fun p hp => by
  rcases h with h | h
  · exact q _ _ (h p (A.noH hp)) F _ _ (Same.refl _) rfl (A.new hp ⟨vs, rfl, r⟩)
  · obtain ⟨s, A1⟩ := A.frz (o := .lst vs) hp
    exact q _ _ h _ _ _ s ⟨p, vs, rfl, upd_same, RelWs.mono s _ r⟩ A1
theorem newT_low (A : AbH K F H' H) (q : QR K F Q' Q) {vs : List V} (r : RelWs K F xs vs) (h : Q' (.tup xs) H') : ∀ p, H p = none → Q (.ref p) (upd H p (.tup vs)) := fun p hp => by
  obtain ⟨s, A1⟩ := A.frz (o := .tup vs) hp
  exact q _ _ h _ _ _ s ⟨p, vs, rfl, upd_same, RelWs.mono s _ r⟩ A1
/-- a value without an object of its own -/
theorem QR.at (q : QR K F Q' Q) (A : AbH K F H' H) (r : RelW K F w v) (h : Q' w H') : Q v H := q w H' h F v H (Same.refl _) r A
theorem QR.int {i : Int} (q : QR K F Q' Q) (A : AbH K F H' H) (h : Q' (.int i) H') : Q (.int i) H := q.at A (show RelW K F (.int i) (.int i) from rfl) h
theorem QR.bl {b : Bool} (q : QR K F Q' Q) (A : AbH K F H' H) (h : Q' (.bl b) H') : Q (.bl b) H := q.at A (show RelW K F (.bl b) (.bl b) from rfl) h
theorem QR.str {x : Str} (q : QR K F Q' Q) (A : AbH K F H' H) (h : Q' (.str x) H') : Q (.str x) H := q.at A (show RelW K F (.str x) (.str x) from rfl) h
theorem QR.non (q : QR K F Q' Q) (A : AbH K F H' H) (h : Q' .non H') : Q .non H := q.at A (show RelW K F .non .non from rfl) h
theorem QR.ref {a : Addr} (q : QR K F Q' Q) (A : AbH K F H' H) (h : Q' (.ref a) H') : Q (.ref a) H := q.at A (show RelW K F (.ref a) (.ref a) from rfl) h
end

/-! ### data, for == -/
mutual
inductive DW (H : Hw) : W → PyData → Prop
  | non : DW H .non .none
  | bl (b : Bool) : DW H (.bl b) (.bool b)
  | int (i : Int) : DW H (.int i) (.int i)
  | str (x : Str) : DW H (.str x) (.str x)
  | tup {xs : List W} {ds : List PyData} : DWs H xs ds → DW H (.tup xs) (.tuple ds)
  | lst {w : W} {xs : List W} {ds : List PyData} : seqL H w xs → DWs H xs ds → DW H w (.list ds)
inductive DWs (H : Hw) : List W → List PyData → Prop
  | nil : DWs H [] []
  | cons {w : W} {ws : List W} {d : PyData} {ds : List PyData} : DW H w d → DWs H ws ds → DWs H (w :: ws) (d :: ds)
end
section
variable {K : PySem.W.Frag} {F : Hp} {H' : Hw} {H : Hp}
mutual
theorem DW.low (A : AbH K F H' H) : ∀ (d : PyData) {w : W} {v : V}, DW H' w d → RelW K F w v → Dp K H v d
  | .none, _, _, h, r => by
    cases h
    rw [show _ = V.non from r]
    exact .non
  | .bool b, _, _, h, r => by
    cases h
    rw [show _ = V.bl b from r]
    exact .bl b
  | .int i, _, _, h, r => by
    cases h
    rw [show _ = V.int i from r]
    exact .int i
  | .str x, _, _, h, r => by
    cases h
    rw [show _ = V.str x from r]
    exact .str x
  | .list ds, _, _, h, r => by
    cases h with
    | lst hs ha =>
      obtain ⟨a, vs, e, q, t⟩ := seqL_low A r hs
      rw [e]
      exact .lst q (DWs.low A ds ha t)
  | .tuple ds, _, _, h, r => by
    cases h with
    | tup ha =>
      obtain ⟨a, vs, e, q, t⟩ := r
      rw [e]
      exact .tup (SqT.of (A.sub _ _ q)) (DWs.low A ds ha t)
  | .dict _, _, _, h, _ => by cases h
theorem DWs.low (A : AbH K F H' H) : ∀ (ds : List PyData) {ws : List W} {vs : List V}, DWs H' ws ds → RelWs K F ws vs → DpAll K H vs ds
  | [], _, _, h, r => by
    cases h
    rw [show _ = [] from r]
    exact .nil
  | d :: ds, _, _, h, r => by
    cases h with
    | cons h1 h2 =>
      obtain ⟨v, vs, e, r1, r2⟩ := r
      rw [e]
      exact .cons (DW.low A d h1 r1) (DWs.low A ds h2 r2)
end
end

/-! ### operators -/
/-- the operators' readings -/
def addW : R2W := fun x y H Q => match x, y with
  | .int i, .int j => Q (.int (i + j)) H
  | .str i, .str j => i.length + j.length ≤ sizeLine ∧ Q (.str (i ++ j)) H
  | x, y => ∃ xs ys, seqM H x xs ∧ seqM H y ys ∧ xs.length + ys.length ≤ sizeLine ∧ newL (xs ++ ys) H Q
def intW (C : Int → Int → Prop) (g : Int → Int → W) : R2W := fun x y H Q => match x, y with
  | .int i, .int j => C i j ∧ Q (g i j) H
  | _, _ => False
def mulW : R2W := fun x y H Q => match x, y with
  | .int i, .int j => CMul i j ∧ Q (.int (i * j)) H
  | x, .int k => ∃ xs, seqM H x xs ∧ -(2 ^ 63) ≤ k ∧ k < 2 ^ 63 ∧ xs.length * k.toNat ≤ sizeLine ∧ newL (List.replicate k.toNat xs).flatten H Q
  | _, _ => False
def binW : Operator → R2W
  | .Add => addW
  | .Sub => intW (fun _ _ => True) fun i j => .int (i - j)
  | .Mult => mulW
  | .FloorDiv => intW CDiv fun i j => .int (i / j)
  | .Mod => intW (fun _ j => 0 < j) fun i j => .int (i % j)
  | .Pow => intW CPow fun i j => .int (i ^ j.toNat)
  | _ => fun _ _ _ _ => False
def rAddV : R2 := fun x y H Q => rI0 (fun i j => .int (i + j)) x y H Q ∨ (∃ i j, x = .str i ∧ y = .str j ∧ i.length + j.length ≤ sizeLine ∧ Q (.str (i ++ j)) H) ∨ rCat x y H Q
def rMulV : R2 := fun x y H Q => rI CMul (fun i j => .int (i * j)) x y H Q ∨ rRep x y H Q
def binV : Operator → R2
  | .Add => rAddV
  | .Sub => rI0 fun i j => .int (i - j)
  | .Mult => rMulV
  | .FloorDiv => rI CDiv fun i j => .int (i / j)
  | .Mod => rI (fun _ j => 0 < j) fun i j => .int (i % j)
  | .Pow => rI CPow fun i j => .int (i ^ j.toNat)
  | _ => fun _ _ _ _ => False
theorem binV_ok {X : Cx} (op : Operator) : OpR X (binaryOp op) (binV op) := by
  cases op with
  | Add => exact op_add.or (op_add_str.or op_cat)
  | Sub => exact op_sub
  | Mult => exact op_mul.or op_rep
  | FloorDiv => exact op_fdiv
  | Mod => exact op_mod
  | Pow => exact op_pow
  | _ => exact fun _ _ _ _ _ _ _ _ _ _ _ _ h => (show False from h).elim
theorem cat_low {K : PySem.W.Frag} {F : Hp} {x y : W} {v v' : V} {H' : Hw} {H : Hp} {Q' : KW} {Q : VK} (rx : RelW K F x v) (ry : RelW K F y v') (A : AbH K F H' H) (q : QR K F Q' Q)
    (h : ∃ xs ys, seqM H' x xs ∧ seqM H' y ys ∧ xs.length + ys.length ≤ sizeLine ∧ newL (xs ++ ys) H' Q') : rCat v v' H Q := by
  obtain ⟨xs, ys, h1, h2, hl, hn⟩ := h
  obtain ⟨a, vs, e1, q1, t1⟩ := seqM_low A rx h1
  obtain ⟨b, us, e2, q2, t2⟩ := seqM_low A ry h2
  exact ⟨a, b, vs, us, e1, e2, q1, q2, by rw [← t1.length, ← t2.length]; exact hl, newL_low A q (t1.append t2) hn⟩
theorem RelWs.rep {K : PySem.W.Frag} {F : Hp} {xs : List W} {vs : List V} (r : RelWs K F xs vs) : ∀ k : Nat, RelWs K F (List.replicate k xs).flatten (List.replicate k vs).flatten
  | 0 => rfl
  | k + 1 => by
    rw [List.replicate_succ, List.replicate_succ, List.flatten_cons, List.flatten_cons]
    exact r.append (RelWs.rep r k)
theorem rep_low {K : PySem.W.Frag} {F : Hp} {x : W} {k : Int} {v : V} {H' : Hw} {H : Hp} {Q' : KW} {Q : VK} (rx : RelW K F x v) (A : AbH K F H' H) (q : QR K F Q' Q)
    (h : ∃ xs, seqM H' x xs ∧ -(2 ^ 63) ≤ k ∧ k < 2 ^ 63 ∧ xs.length * k.toNat ≤ sizeLine ∧ newL (List.replicate k.toNat xs).flatten H' Q') : rRep v (.int k) H Q := by
  obtain ⟨xs, h1, h2, h3, h4, hn⟩ := h
  obtain ⟨a, vs, e1, q1, t1⟩ := seqM_low A rx h1
  exact ⟨a, k, vs, e1, rfl, q1, h2, h3, by rw [← t1.length]; exact h4, newL_low A q (t1.rep k.toNat) hn⟩
theorem binW_low {K : PySem.W.Frag} (op : Operator) : OpLow K (binW op) (binV op) := by
  intro F x y v v' H' H Q' Q rx ry A q h
  have ii : ∀ (C : Int → Int → Prop) (g : Int → Int → Int), intW C (fun i j => .int (g i j)) x y H' Q' → rI C (fun i j => .int (g i j)) v v' H Q := fun C g h => by
    cases x with
    | int i =>
      cases y with
      | int j => exact ⟨i, j, rx, ry, h.1, q.int A h.2⟩
      | _ => exact (show False from h).elim
    | _ => exact (show False from h).elim
  cases op with
  | Add =>
    cases x with
    | int i =>
      cases y with
      | int j => exact .inl ⟨i, j, rx, ry, q.int A h⟩
      | _ => exact .inr (.inr (cat_low rx ry A q h))
    | str i =>
      cases y with
      | str j => exact .inr (.inl ⟨i, j, rx, ry, h.1, q.str A h.2⟩)
      | _ => exact .inr (.inr (cat_low rx ry A q h))
    | _ => cases y <;> exact .inr (.inr (cat_low rx ry A q h))
  | Sub =>
    cases x with
    | int i =>
      cases y with
      | int j => exact ⟨i, j, rx, ry, q.int A h.2⟩
      | _ => exact (show False from h).elim
    | _ => exact (show False from h).elim
  | Mult =>
    cases y with
    | int k =>
      cases x with
      | int i => exact .inl ⟨i, k, rx, ry, h.1, q.int A h.2⟩
      | _ =>
        rw [show v' = V.int k from ry]
        exact .inr (rep_low rx A q h)
    | _ => cases x <;> exact (show False from h).elim
  | FloorDiv => exact ii _ _ h
  | Mod => exact ii _ _ h
  | Pow => exact ii _ _ h
  | _ => exact (show False from h).elim

/-! ### comparisons -/
def eqW : W → W → Hw → (Bool → Prop) → Prop := fun x y H P => match x, y with
  | .int i, .int j => P (i == j)
  | .str i, .str j => P (decide (i = j))
  | .bl i, .bl j => P (i == j)
  | .non, .non => P true
  | x, y => ∃ d e, DW H x d ∧ DW H y e ∧ SeqAt.shaped d = true ∧ SeqAt.shaped e = true ∧ P (PyData.eqv d e)
/-- the ints of a tuple -/
def intsT : W → List Int → Prop
  | .tup xs, ns => xs = ns.map W.int
  | _, _ => False
def gtI (ns ms : List Int) : Bool := Ob.lexAt (fun j => decide (ns.getD j 0 = ms.getD j 0)) (fun j => decide (ms.getD j 0 < ns.getD j 0)) (decide (ms.length < ns.length)) 0 (min ns.length ms.length)
def leI (ns ms : List Int) : Bool := Ob.lexAt (fun j => decide (ns.getD j 0 = ms.getD j 0)) (fun j => decide (ns.getD j 0 ≤ ms.getD j 0)) (decide (ns.length ≤ ms.length)) 0 (min ns.length ms.length)
def ordW (f : Int → Int → Bool) (g : List Int → List Int → Bool) : R2W := fun x y H Q => match x, y with
  | .int i, .int j => Q (.bl (f i j)) H
  | x, y => ∃ ns ms, intsT x ns ∧ intsT y ms ∧ Q (.bl (g ns ms)) H
def flatW : W → Bool
  | .non => true
  | .bl _ => true
  | .int _ => true
  | .str _ => true
  | _ => false
def eqF : W → W → Bool
  | .non, .non => true
  | .bl a, .bl b => a == b
  | .bl a, .int b => (if a then 1 else 0) == b
  | .int a, .bl b => a == (if b then 1 else 0)
  | .int a, .int b => a == b
  | .str a, .str b => a == b
  | _, _ => false
def valW {α : Type} [DecidableEq α] (kvs : List (α × W)) (k : α) : Option W := (kvs.find? fun kv => decide (kv.1 = k)).map (·.2)
def putKW {α : Type} [DecidableEq α] (kvs : List (α × W)) (k : α) (v : W) : List (α × W) :=
  if kvs.any (fun kv => decide (kv.1 = k)) then kvs.map fun kv => if kv.1 = k then (kv.1, v) else kv else kvs ++ [(k, v)]
def keyW : W → Option Key
  | .int i => some (.inl i)
  | .str x => some (.inr x)
  | _ => none
/-- x in y: three ways, by the kind of y and of x -/
def inW : W → W → Hw → (Bool → Prop) → Prop := fun x y H P =>
  (∃ xs, seqA H y xs ∧ flatW x = true ∧ xs.all flatW = true ∧ P (xs.any fun z => eqF z x)) ∨
  (∃ d ds, DW H x d ∧ DW H y (.list ds) ∧ SeqAt.shaped d = true ∧ SeqAt.shaped (.list ds) = true ∧ P (ds.any fun z => PyData.eqv z d)) ∨
  (∃ a kvs k, y = .ref a ∧ H a = some (.dct kvs) ∧ keyW x = some k ∧ P (valW kvs k).isSome)
def isW : W → W → (Bool → Prop) → Prop := fun x y P => match y with
  | .non => (match x with
    | .non => P true
    | _ => P false)
  | .bl b => (match x with
    | .bl a => P (a == b)
    | .scr _ => False
    | _ => P false)
  | _ => False
def cmpW : CmpOp → R2W
  | .Eq => fun x y H Q => eqW x y H fun b => Q (.bl b) H
  | .NotEq => fun x y H Q => eqW x y H fun b => Q (.bl (!b)) H
  | .Lt => ordW (fun i j => decide (i < j)) HT.lexLt
  | .LtE => ordW (fun i j => decide (i ≤ j)) leI
  | .Gt => ordW (fun i j => decide (j < i)) gtI
  | .GtE => fun x y H Q => match x, y with
    | .int i, .int j => Q (.bl (decide (j ≤ i))) H
    | _, _ => False
  | .In => fun x y H Q => inW x y H fun b => Q (.bl b) H
  | .NotIn => fun x y H Q => inW x y H fun b => Q (.bl (!b)) H
  | .Is => fun x y H Q => isW x y fun b => Q (.bl b) H
  | .IsNot => fun x y H Q => isW x y fun b => Q (.bl (!b)) H
end WL

/-! ## Comparisons lowered; dicts; built-in calls -/
namespace WL
open PySem L2

theorem is_with_bool {X : Cx} {pins : List (Addr × Obj)} {σ : L2.St} {H : Hp} {s : Shared} {v : Value} {b c : Bool} {Q : VK} (I : Inv X pins σ H s) (hv : plainIs v (.bool b) = true) (hc : (v == Value.bool b) = c) (h : Q (.bl c) H) :
    wpAny (model X.prog X.w) X.A (compareOp .Is v (.bool b)) (EP X pins σ Q) X.xe s := wpAny_is_plain hv (by rw [hc]; exact ⟨.bl c, H, I, rfl, h⟩)
theorem isnot_with_bool {X : Cx} {pins : List (Addr × Obj)} {σ : L2.St} {H : Hp} {s : Shared} {v : Value} {b c : Bool} {Q : VK} (I : Inv X pins σ H s) (hv : plainIs v (.bool b) = true) (hc : (v == Value.bool b) = c) (h : Q (.bl (!c)) H) :
    wpAny (model X.prog X.w) X.A (compareOp .IsNot v (.bool b)) (EP X pins σ Q) X.xe s := wpAny_isNot_plain hv (by rw [hc]; exact ⟨.bl (!c), H, I, rfl, h⟩)
def isBV (neg : Bool) : R2 := fun x y H Q => ∃ b, y = .bl b ∧ (match x with
  | .bl a => Q (.bl (neg ^^ (a == b))) H
  | .flt _ => False
  | .byt _ => False
  | _ => Q (.bl neg) H)
theorem op_isB {X : Cx} : OpR X (compareOp .Is) (isBV false) := by
  intro pins s σ H x y v u Q I rx ry h
  obtain ⟨b, rfl, q⟩ := h
  cases (show u = Value.bool b from ry)
  cases x with
  | non => cases (show v = Value.none from rx); exact is_with_bool I rfl (c := false) rfl q
  | bl a =>
    cases (show v = Value.bool a from rx)
    refine is_with_bool I rfl (c := a == b) ?_ (by simpa using q)
    cases a <;> cases b <;> rfl
  | int i => obtain ⟨t, e⟩ := (show ∃ t, v = Value.int i t from rx); cases e; exact is_with_bool I rfl (c := false) rfl q
  | str i => obtain ⟨t, e⟩ := (show ∃ t, v = Value.str i t from rx); cases e; exact is_with_bool I rfl (c := false) rfl q
  | ref a => cases (show v = Value.ref a from rx); exact is_with_bool I rfl (c := false) rfl q
  | ty n => cases (show v = Value.type n from rx); exact is_with_bool I rfl (c := false) rfl q
  | flt _ => exact (show False from q).elim
  | byt _ => exact (show False from q).elim
theorem op_isnotB {X : Cx} : OpR X (compareOp .IsNot) (isBV true) := by
  intro pins s σ H x y v u Q I rx ry h
  obtain ⟨b, rfl, q⟩ := h
  cases (show u = Value.bool b from ry)
  cases x with
  | non => cases (show v = Value.none from rx); exact isnot_with_bool I rfl (c := false) rfl q
  | bl a =>
    cases (show v = Value.bool a from rx)
    refine isnot_with_bool I rfl (c := a == b) ?_ (by simpa using q)
    cases a <;> cases b <;> rfl
  | int i => obtain ⟨t, e⟩ := (show ∃ t, v = Value.int i t from rx); cases e; exact isnot_with_bool I rfl (c := false) rfl q
  | str i => obtain ⟨t, e⟩ := (show ∃ t, v = Value.str i t from rx); cases e; exact isnot_with_bool I rfl (c := false) rfl q
  | ref a => cases (show v = Value.ref a from rx); exact isnot_with_bool I rfl (c := false) rfl q
  | ty n => cases (show v = Value.type n from rx); exact isnot_with_bool I rfl (c := false) rfl q
  | flt _ => exact (show False from q).elim
  | byt _ => exact (show False from q).elim

/-- t > u of two tuples of ints -/
def rGtT (K : PySem.W.Frag) : R2 := fun x y H Q => ∃ (a b : Addr) (ns ms : List Int), x = .ref a ∧ y = .ref b ∧ SqT K H a (ns.map V.int) ∧ SqT K H b (ms.map V.int) ∧ Q (.bl (gtI ns ms)) H
theorem op_gtT {X : Cx} (hu : X.A.units < cLine) : OpR X (compareOp .Gt) (rGtT X.K) := by
  intro pins s σ H x y v u Q I rx ry h
  obtain ⟨a, b, ns, ms, rfl, rfl, ha, hb, q⟩ := h
  cases rx
  cases ry
  obtain ⟨its, r1, p1, _⟩ := I.tuple ha
  obtain ⟨its2, r2, p2, _⟩ := I.tuple hb
  have i1 : PyProof.Rows.IntsAre its ns := Vals.ints r1
  have i2 : PyProof.Rows.IntsAre its2 ms := Vals.ints r2
  have e1 : its.toArray.size = ns.length := by rw [List.size_toArray]; exact i1.length
  have e2 : its2.toArray.size = ms.length := by rw [List.size_toArray]; exact i2.length
  have at1 : ∀ j (h1 : j < its.toArray.size), ∃ t, its.toArray[j] = .int (ns.getD j 0) t := fun j h1 => PyProof.Rows.IntsAre.int_at i1 _ _ (by simp at h1; simp [h1])
  have at2 : ∀ j (h1 : j < its2.toArray.size), ∃ t, its2.toArray[j] = .int (ms.getD j 0) t := fun j h1 => PyProof.Rows.IntsAre.int_at i2 _ _ (by simp at h1; simp [h1])
  have R := Ob.RcOp.tuples_gt (A := X.A) (s := s) (e := fun j => decide (ns.getD j 0 = ms.getD j 0)) (r := fun j => decide (ms.getD j 0 < ns.getD j 0)) p1 p2 hu (fun j h1 h2 => by
    obtain ⟨t, et⟩ := at1 j h1
    obtain ⟨t', et'⟩ := at2 j h2
    rw [et, et']
    have z : (ns.getD j 0 == ms.getD j 0) = decide (ns.getD j 0 = ms.getD j 0) := by
      by_cases q : ns.getD j 0 = ms.getD j 0
      · rw [decide_eq_true q]; exact beq_iff_eq.mpr q
      · rw [decide_eq_false q]; exact beq_eq_false_iff_ne.mpr q
    rw [← z]
    exact SeqAt.EqAt.int_int _ _ _ _) (fun j h1 h2 _ => by
    obtain ⟨t, et⟩ := at1 j h1
    obtain ⟨t', et'⟩ := at2 j h2
    rw [et, et']
    exact Ob.RcOp.gt_int _ _ _ _)
  rw [e1, e2] at R
  exact R X.prog X.w X.xe (EP X pins σ Q) ⟨.bl _, H, I, rfl, q⟩

def cmpV (K : PySem.W.Frag) : CmpOp → R2
  | .Eq => fun x y H Q => rEq x y H Q ∨ rEqD K x y H Q
  | .NotEq => fun x y H Q => rNe x y H Q ∨ rNeD K x y H Q
  | .Lt => fun x y H Q => rI0 (fun i j => .bl (decide (i < j))) x y H Q ∨ rLtT K x y H Q
  | .LtE => fun x y H Q => rI0 (fun i j => .bl (decide (i ≤ j))) x y H Q ∨ rLeT K x y H Q
  | .Gt => fun x y H Q => rI0 (fun i j => .bl (decide (j < i))) x y H Q ∨ rGtT K x y H Q
  | .GtE => rI0 (fun i j => .bl (decide (j ≤ i)))
  | .In => fun x y H Q => rIn K false x y H Q ∨ rInD K x y H Q
  | .NotIn => fun x y H Q => rIn K true x y H Q ∨ rNotInD K x y H Q
  | .Is => fun x y H Q => (y = .non ∧ Q (.bl (decide (x = .non))) H) ∨ isBV false x y H Q
  | .IsNot => fun x y H Q => (y = .non ∧ Q (.bl (!decide (x = .non))) H) ∨ isBV true x y H Q
theorem cmpV_ok {X : Cx} (hu : X.A.units + 65 < cLine) (op : CmpOp) : OpR X (compareOp op) (cmpV X.K op) := by
  have h64 : X.A.units + 64 < cLine := by omega
  have h0 : X.A.units < cLine := by omega
  cases op with
  | Eq => exact op_eq.or (op_eqD h64)
  | NotEq => exact op_ne.or (op_neD h64)
  | Lt => exact op_lt.or (op_ltT h0)
  | LtE => exact op_le.or (op_leT h0)
  | Gt => exact op_gt.or (op_gtT h0)
  | GtE => exact op_ge
  | In => exact op_in_seq.or (op_inD hu)
  | NotIn => exact op_notIn_seq.or (op_notInD hu)
  | Is => exact op_isN.or op_isB
  | IsNot => exact op_notN.or op_isnotB
/-- as cmpW, but without the keys of dicts -/
def inW0 : W → W → Hw → (Bool → Prop) → Prop := fun x y H P =>
  (∃ xs, seqA H y xs ∧ flatW x = true ∧ xs.all flatW = true ∧ P (xs.any fun z => eqF z x)) ∨
  (∃ d ds, DW H x d ∧ DW H y (.list ds) ∧ SeqAt.shaped d = true ∧ SeqAt.shaped (.list ds) = true ∧ P (ds.any fun z => PyData.eqv z d))
def cmpW0 : CmpOp → R2W
  | .In => fun x y H Q => inW0 x y H fun b => Q (.bl b) H
  | .NotIn => fun x y H Q => inW0 x y H fun b => Q (.bl (!b)) H
  | op => cmpW op
section
variable {K : PySem.W.Frag} {F : Hp} {x y : W} {v v' : V} {H' : Hw} {H : Hp} {Q' : KW} {Q : VK}
theorem flat_low {w : W} {v : V} (r : RelW K F w v) (f : flatW w = true) : flatV v = true := by
  cases w with
  | non => rw [show v = V.non from r]; rfl
  | bl b => rw [show v = V.bl b from r]; rfl
  | int b => rw [show v = V.int b from r]; rfl
  | str b => rw [show v = V.str b from r]; rfl
  | _ => cases f
theorem eqF_low {w w' : W} {v v' : V} (r : RelW K F w v) (r' : RelW K F w' v') (f : flatW w = true) (f' : flatW w' = true) : eqV v v' = eqF w w' := by
  cases w with
  | non =>
    rw [show v = V.non from r]
    cases w' with
    | non => rw [show v' = V.non from r']; rfl
    | bl b => rw [show v' = V.bl b from r']; rfl
    | int b => rw [show v' = V.int b from r']; rfl
    | str b => rw [show v' = V.str b from r']; rfl
    | _ => cases f'
  | bl a =>
    rw [show v = V.bl a from r]
    cases w' with
    | non => rw [show v' = V.non from r']; rfl
    | bl b => rw [show v' = V.bl b from r']; rfl
    | int b => rw [show v' = V.int b from r']; rfl
    | str b => rw [show v' = V.str b from r']; rfl
    | _ => cases f'
  | int a =>
    rw [show v = V.int a from r]
    cases w' with
    | non => rw [show v' = V.non from r']; rfl
    | bl b => rw [show v' = V.bl b from r']; rfl
    | int b => rw [show v' = V.int b from r']; rfl
    | str b => rw [show v' = V.str b from r']; rfl
    | _ => cases f'
  | str a =>
    rw [show v = V.str a from r]
    cases w' with
    | non => rw [show v' = V.non from r']; rfl
    | bl b => rw [show v' = V.bl b from r']; rfl
    | int b => rw [show v' = V.int b from r']; rfl
    | str b => rw [show v' = V.str b from r']; rfl
    | _ => cases f'
  | _ => cases f
theorem flats_low : ∀ {ws : List W} {vs : List V}, RelWs K F ws vs → ws.all flatW = true → vs.all flatV = true
  | [], _, r, _ => by rw [show _ = [] from r]; rfl
  | w :: ws, _, ⟨v, vs, e, r, t⟩, f => by
    rw [List.all_cons, Bool.and_eq_true] at f
    rw [e, List.all_cons, flat_low r f.1, flats_low t f.2]
    rfl
theorem any_low {x : W} {v : V} (rx : RelW K F x v) (fx : flatW x = true) : ∀ {ws : List W} {vs : List V}, RelWs K F ws vs → ws.all flatW = true → inV v vs = ws.any fun z => eqF z x
  | [], _, r, _ => by rw [show _ = [] from r]; rfl
  | w :: ws, _, ⟨u, vs, e, r, t⟩, f => by
    rw [List.all_cons, Bool.and_eq_true] at f
    rw [e, List.any_cons, ← any_low rx fx t f.2, ← eqF_low r rx f.1 fx]
    rfl
theorem eqW_low {P : Bool → Prop} (rx : RelW K F x v) (ry : RelW K F y v') (A : AbH K F H' H) (h : eqW x y H' P) : (∃ b, P b ∧ scal v v' = true ∧ decide (v = v') = b) ∨ ∃ d e, Dp K H v d ∧ Dp K H v' e ∧ SeqAt.shaped d = true ∧ SeqAt.shaped e = true ∧ P (PyData.eqv d e) := by
  have deep : (∃ d e, DW H' x d ∧ DW H' y e ∧ SeqAt.shaped d = true ∧ SeqAt.shaped e = true ∧ P (PyData.eqv d e)) → ∃ d e, Dp K H v d ∧ Dp K H v' e ∧ SeqAt.shaped d = true ∧ SeqAt.shaped e = true ∧ P (PyData.eqv d e) := fun ⟨d, e, h1, h2, h3, h4, h5⟩ =>
    ⟨d, e, h1.low A d rx, h2.low A e ry, h3, h4, h5⟩
  cases x with
  | int i =>
    cases y with
    | int j =>
      refine .inl ⟨i == j, h, ?_⟩
      rw [show v = V.int i from rx, show v' = V.int j from ry]
      exact ⟨rfl, dec_int⟩
    | _ => exact .inr (deep h)
  | str i =>
    cases y with
    | str j =>
      refine .inl ⟨decide (i = j), h, ?_⟩
      rw [show v = V.str i from rx, show v' = V.str j from ry]
      refine ⟨rfl, ?_⟩
      by_cases e : i = j
      · rw [e]; simp
      · rw [decide_eq_false e, decide_eq_false (fun z => e (V.str.inj z))]
    | _ => exact .inr (deep h)
  | bl i =>
    cases y with
    | bl j =>
      refine .inl ⟨i == j, h, ?_⟩
      rw [show v = V.bl i from rx, show v' = V.bl j from ry]
      exact ⟨rfl, dec_bl⟩
    | _ => exact .inr (deep h)
  | non =>
    cases y with
    | non =>
      refine .inl ⟨true, h, ?_⟩
      rw [show v = V.non from rx, show v' = V.non from ry]
      exact ⟨rfl, by decide⟩
    | _ => exact .inr (deep h)
  | _ => cases y <;> exact .inr (deep h)
theorem intsT_low {w : W} {v : V} {ns : List Int} (A : AbH K F H' H) (r : RelW K F w v) (h : intsT w ns) : ∃ a, v = .ref a ∧ SqT K H a (ns.map V.int) := by
  cases w with
  | tup xs =>
    obtain ⟨a, vs, e, q, t⟩ := r
    have ex : xs = ns.map W.int := h
    rw [ex] at t
    rw [RelWs.ints t] at q
    exact ⟨a, e, SqT.of (A.sub _ _ q)⟩
  | _ => exact (show False from h).elim
theorem ordW_low {f : Int → Int → Bool} {g : List Int → List Int → Bool} {rT : R2} (hT : ∀ v v' H Q, (∃ a b ns ms, v = V.ref a ∧ v' = V.ref b ∧ SqT K H a (ns.map V.int) ∧ SqT K H b (ms.map V.int) ∧ Q (.bl (g ns ms)) H) → rT v v' H Q)
    (rx : RelW K F x v) (ry : RelW K F y v') (A : AbH K F H' H) (q : QR K F Q' Q) (h : ordW f g x y H' Q') : rI0 (fun i j => .bl (f i j)) v v' H Q ∨ rT v v' H Q := by
  have deep : (∃ ns ms, intsT x ns ∧ intsT y ms ∧ Q' (.bl (g ns ms)) H') → rT v v' H Q := fun ⟨ns, ms, h1, h2, h3⟩ => by
    obtain ⟨a, e1, q1⟩ := intsT_low A rx h1
    obtain ⟨b, e2, q2⟩ := intsT_low A ry h2
    exact hT _ _ _ _ ⟨a, b, ns, ms, e1, e2, q1, q2, q.bl A h3⟩
  cases x with
  | int i =>
    cases y with
    | int j => exact .inl ⟨i, j, rx, ry, q.bl A h⟩
    | _ => exact .inr (deep h)
  | _ => cases y <;> exact .inr (deep h)
theorem inW0_low {P : Bool → Prop} (rx : RelW K F x v) (ry : RelW K F y v') (A : AbH K F H' H) (h : inW0 x y H' P) :
    (∃ p xs, v' = .ref p ∧ (SqL K H p xs ∨ SqT K H p xs) ∧ flatV v = true ∧ xs.all flatV = true ∧ P (inV v xs)) ∨ ∃ d ds, Dp K H v d ∧ Dp K H v' (.list ds) ∧ SeqAt.shaped d = true ∧ SeqAt.shaped (.list ds) = true ∧ P (ds.any fun z => PyData.eqv z d) := by
  rcases h with ⟨xs, h1, h2, h3, h4⟩ | ⟨d, ds, h1, h2, h3, h4, h5⟩
  · obtain ⟨a, vs, e, q, t⟩ := seqA_low A ry h1
    exact .inl ⟨a, vs, e, q, flat_low rx h2, flats_low t h3, by rw [any_low rx h2 t h3]; exact h4⟩
  · exact .inr ⟨d, ds, h1.low A d rx, h2.low A _ ry, h3, h4, h5⟩
theorem isW_low {neg : Bool} {P : Bool → Prop} (rx : RelW K F x v) (ry : RelW K F y v') (hP : ∀ b, P b → Q (.bl (neg ^^ b)) H) (h : isW x y P) : (v' = .non ∧ Q (.bl (neg ^^ decide (v = .non))) H) ∨ isBV neg v v' H Q := by
  have nf : ∀ {c : Bool}, c = false → (neg ^^ c) = neg := fun {c} e => by rw [e]; simp
  cases y with
  | non =>
    refine .inl ⟨ry, ?_⟩
    cases x with
    | non => rw [show v = V.non from rx]; exact hP true h
    | bl b => rw [show v = V.bl b from rx]; exact hP false h
    | int b => rw [show v = V.int b from rx]; exact hP false h
    | str b => rw [show v = V.str b from rx]; exact hP false h
    | ref b => rw [show v = V.ref b from rx]; exact hP false h
    | scr ns => obtain ⟨a, e, _⟩ := rx; rw [e]; exact hP false h
    | tup xs => obtain ⟨a, vs, e, _⟩ := rx; rw [e]; exact hP false h
    | fls xs => obtain ⟨a, vs, e, _⟩ := rx; rw [e]; exact hP false h
  | bl b =>
    refine .inr ⟨b, ry, ?_⟩
    have pf : P false → Q (.bl neg) H := fun z => by
      have := hP false z
      rwa [nf rfl] at this
    cases x with
    | non => rw [show v = V.non from rx]; exact pf h
    | bl a => rw [show v = V.bl a from rx]; exact hP (a == b) h
    | int b => rw [show v = V.int b from rx]; exact pf h
    | str b => rw [show v = V.str b from rx]; exact pf h
    | ref b => rw [show v = V.ref b from rx]; exact pf h
    | scr ns => exact (show False from h).elim
    | tup xs => obtain ⟨a, vs, e, _⟩ := rx; rw [e]; exact pf h
    | fls xs => obtain ⟨a, vs, e, _⟩ := rx; rw [e]; exact pf h
  | _ => exact (show False from h).elim
end
theorem cmpW_low {K : PySem.W.Frag} (op : CmpOp) : OpLow K (cmpW0 op) (cmpV K op) := by
  intro F x y v v' H' H Q' Q rx ry A q h
  cases op with
  | Eq =>
    rcases eqW_low rx ry A (show eqW x y H' fun b => Q' (.bl b) H' from h) with ⟨b, h1, h2, h3⟩ | ⟨d, e, h1, h2, h3, h4, h5⟩
    · exact .inl ⟨h2, by rw [h3]; exact q.bl A h1⟩
    · exact .inr ⟨d, e, h1, h2, h3, h4, q.bl A h5⟩
  | NotEq =>
    rcases eqW_low rx ry A (show eqW x y H' fun b => Q' (.bl (!b)) H' from h) with ⟨b, h1, h2, h3⟩ | ⟨d, e, h1, h2, h3, h4, h5⟩
    · exact .inl ⟨h2, by rw [h3]; exact q.bl A h1⟩
    · exact .inr ⟨d, e, h1, h2, h3, h4, q.bl A h5⟩
  | Lt => exact ordW_low (fun _ _ _ _ z => z) rx ry A q h
  | LtE => exact ordW_low (fun _ _ _ _ z => z) rx ry A q h
  | Gt => exact ordW_low (fun _ _ _ _ z => z) rx ry A q h
  | GtE =>
    cases x with
    | int i =>
      cases y with
      | int j => exact ⟨i, j, rx, ry, q.bl A h⟩
      | _ => exact (show False from h).elim
    | _ => exact (show False from h).elim
  | In =>
    rcases inW0_low rx ry A (show inW0 x y H' fun b => Q' (.bl b) H' from h) with ⟨p, xs, h1, h2, h3, h4, h5⟩ | ⟨d, ds, h1, h2, h3, h4, h5⟩
    · exact .inl ⟨p, xs, h1, h2, h3, h4, q.bl A h5⟩
    · exact .inr ⟨d, ds, h1, h2, h3, h4, q.bl A h5⟩
  | NotIn =>
    rcases inW0_low rx ry A (show inW0 x y H' fun b => Q' (.bl (!b)) H' from h) with ⟨p, xs, h1, h2, h3, h4, h5⟩ | ⟨d, ds, h1, h2, h3, h4, h5⟩
    · exact .inl ⟨p, xs, h1, h2, h3, h4, q.bl A h5⟩
    · exact .inr ⟨d, ds, h1, h2, h3, h4, q.bl A h5⟩
  | Is =>
    rcases isW_low (neg := false) (Q := Q) (H := H) rx ry (fun b z => by rw [Bool.false_xor]; exact q.bl A z) (show isW x y fun b => Q' (.bl b) H' from h) with ⟨h1, h2⟩ | h1
    · exact .inl ⟨h1, by rw [Bool.false_xor] at h2; exact h2⟩
    · exact .inr h1
  | IsNot =>
    rcases isW_low (neg := true) (Q := Q) (H := H) rx ry (fun b z => by rw [Bool.true_xor]; exact q.bl A z) (show isW x y fun b => Q' (.bl (!b)) H' from h) with ⟨h1, h2⟩ | h1
    · exact .inl ⟨h1, by rw [Bool.true_xor] at h2; exact h2⟩
    · exact .inr h1
end WL

/-! ## Items, slices, dicts, methods of lists, built-in calls -/
namespace WL
open PySem L2

def delW (H : Hw) (a : Addr) : Hw := fun b => if b = a then none else H b
theorem delW_ne {H : Hw} {a b : Addr} (h : b ≠ a) : delW H a b = H b := by unfold delW; rw [if_neg h]
theorem AbH.freeze {K : PySem.W.Frag} {F : Hp} {H' : Hw} {H : Hp} {a : Addr} {xs : List W} (A : AbH K F H' H) (h : H' a = some (.lst xs)) :
    ∃ F1, Same F F1 ∧ AbH K F1 (delW H' a) H ∧ RelW K F1 (.fls xs) (.ref a) := by
  obtain ⟨na, vs, e, r⟩ := A.obj a _ h
  have s : Same F (upd F a (.lst vs)) := same_upd na
  refine ⟨upd F a (.lst vs), s, ⟨fun b x e1 => ?_, fun b x e1 => ?_⟩, a, vs, rfl, upd_same, RelWs.mono s _ r⟩
  · by_cases hb : b = a
    · subst hb
      rw [upd_same] at e1
      cases e1
      exact e
    · rw [upd_ne hb] at e1
      exact A.sub b x e1
  · by_cases hb : b = a
    · rw [hb] at e1
      unfold delW at e1
      rw [if_pos rfl] at e1
      cases e1
    · rw [delW_ne hb] at e1
      obtain ⟨n, r1⟩ := A.obj b x e1
      exact ⟨by rw [upd_ne hb]; exact n, r1.mono s⟩

/-! ### items -/
def ixW : R2W := fun x y H Q => match x, y with
  | .str z, .int i => ∃ c, z.length ≤ sizeLine ∧ atI z.cps.toList i = some c ∧ Q (.str ⟨#[c]⟩) H
  | x, .int i => ∃ xs v, seqA H x xs ∧ atI xs i = some v ∧ Q v H
  | _, _ => False
theorem atI_low {K : PySem.W.Frag} {F : Hp} {xs : List W} {vs : List V} {i : Int} {w : W} (r : RelWs K F xs vs) (h : atI xs i = some w) : ∃ v, atI vs i = some v ∧ RelW K F w v := by
  unfold atI at h ⊢
  rw [← r.length]
  cases e : ixN xs.length i with
  | none =>
    rw [e] at h
    cases h
  | some j =>
    rw [e] at h
    exact r.get h
theorem ixW_low {K : PySem.W.Frag} : OpLow K ixW (rIx K) := by
  intro F x y v v' H' H Q' Q rx ry A q h
  cases y with
  | int i =>
    have go : (∃ xs w, seqA H' x xs ∧ atI xs i = some w ∧ Q' w H') → rIx K v v' H Q := fun ⟨xs, w, h1, h2, h3⟩ => by
      obtain ⟨a, vs, e, q1, t⟩ := seqA_low A rx h1
      obtain ⟨u, e2, ru⟩ := atI_low t h2
      rcases q1 with q1 | q1
      · exact .inl ⟨a, vs, i, u, e, ry, q1, e2, q.at A ru h3⟩
      · exact .inr (.inl ⟨a, vs, i, u, e, ry, q1, e2, q.at A ru h3⟩)
    cases x with
    | str z =>
      obtain ⟨c, h1, h2, h3⟩ := h
      exact .inr (.inr ⟨z, i, c, rx, ry, h1, h2, q.str A h3⟩)
    | _ => exact go h
  | _ => cases x <;> exact (show False from h).elim

/-! ### slices -/
def cutW (xs : List W) (lo hi : Option Int) : List W := (xs.drop (HT.sIx xs.length 0 lo)).take (HT.sIx xs.length xs.length hi - HT.sIx xs.length 0 lo)
def slW (x : W) (lo hi : Option Int) (H : Hw) (Q : KW) : Prop := match x with
  | .tup xs => ¬ (HT.sIx xs.length 0 lo = 0 ∧ HT.sIx xs.length xs.length hi = xs.length) ∧ Q (.tup (cutW xs lo hi)) H
  | x => ∃ xs, seqL H x xs ∧ newL (cutW xs lo hi) H Q
theorem cut_low {K : PySem.W.Frag} {F : Hp} {xs : List W} {vs : List V} (r : RelWs K F xs vs) (lo hi : Option Int) : RelWs K F (cutW xs lo hi) (cutV vs lo hi) := by
  unfold cutW cutV
  rw [← r.length]
  exact RelWs.take _ (RelWs.drop _ r)
theorem slW_low {K : PySem.W.Frag} {F : Hp} {x : W} {v : V} {lo hi : Option Int} {H' : Hw} {H : Hp} {Q' : KW} {Q : VK} (rx : RelW K F x v) (A : AbH K F H' H) (q : QR K F Q' Q) (h : slW x lo hi H' Q') : rSlT K v lo hi H Q ∨ rSlL K v lo hi H Q := by
  have go : (∃ xs, seqL H' x xs ∧ newL (cutW xs lo hi) H' Q') → rSlT K v lo hi H Q ∨ rSlL K v lo hi H Q := fun ⟨xs, h1, h2⟩ => by
    obtain ⟨a, vs, e, q1, t⟩ := seqL_low A rx h1
    exact .inr ⟨a, vs, e, q1, newL_low A q (cut_low t lo hi) h2⟩
  cases x with
  | tup xs =>
    obtain ⟨a, vs, e, q1, t⟩ := rx
    exact .inl ⟨a, vs, e, SqT.of (A.sub _ _ q1), by rw [← t.length]; exact h.1, newT_low A q (cut_low t lo hi) h.2⟩
  | _ => exact go h

/-! ### dicts -/
section
variable {K : PySem.W.Frag} {F : Hp} {α : Type} [DecidableEq α]
theorem RelKs.val : ∀ {kvs : List (α × W)} {vs : List (α × V)} (k : α), RelKs K F kvs vs → (∀ w, valW kvs k = some w → ∃ v, valV vs k = some v ∧ RelW K F w v) ∧ (valW kvs k = none → valV vs k = none)
  | [], _, k, h => by
    rw [show _ = [] from h]
    exact ⟨fun w e => (by cases e), fun _ => rfl⟩
  | x :: xs, _, k, ⟨v, r, e, h, t⟩ => by
    rw [e]
    by_cases hk : x.1 = k
    · have e1 : valW (x :: xs) k = some x.2 := by simp [valW, List.find?_cons, hk]
      have e2 : valV ((x.1, v) :: r) k = some v := by simp [valV, List.find?_cons, hk]
      rw [e1, e2]
      exact ⟨fun w z => ⟨v, rfl, by rw [← Option.some.inj z]; exact h⟩, fun z => by cases z⟩
    · have e1 : valW (x :: xs) k = valW xs k := by simp [valW, List.find?_cons, hk]
      have e2 : valV ((x.1, v) :: r) k = valV r k := by simp [valV, List.find?_cons, hk]
      rw [e1, e2]
      exact RelKs.val k t
theorem RelKs.anyK : ∀ {kvs : List (α × W)} {vs : List (α × V)} (k : α), RelKs K F kvs vs → (kvs.any fun kv => decide (kv.1 = k)) = vs.any fun kv => decide (kv.1 = k)
  | [], _, k, h => by
    rw [show _ = [] from h]
    rfl
  | x :: xs, _, k, ⟨v, r, e, h, t⟩ => by
    rw [e, List.any_cons, List.any_cons, RelKs.anyK k t]
theorem RelKs.repl : ∀ {kvs : List (α × W)} {vs : List (α × V)} (k : α) {w : W} {u : V}, RelW K F w u → RelKs K F kvs vs → RelKs K F (kvs.map fun kv => if kv.1 = k then (kv.1, w) else kv) (vs.map fun kv => if kv.1 = k then (kv.1, u) else kv)
  | [], _, k, w, u, _, h => by
    rw [show _ = [] from h]
    exact rfl
  | x :: xs, _, k, w, u, rw', ⟨v, r, e, h, t⟩ => by
    rw [e, List.map_cons, List.map_cons]
    by_cases hk : x.1 = k
    · rw [if_pos hk, if_pos hk]
      exact ⟨u, _, rfl, rw', RelKs.repl k rw' t⟩
    · rw [if_neg hk, if_neg hk]
      exact ⟨v, _, rfl, h, RelKs.repl k rw' t⟩
theorem RelKs.snoc : ∀ {kvs : List (α × W)} {vs : List (α × V)} (k : α) {w : W} {u : V}, RelW K F w u → RelKs K F kvs vs → RelKs K F (kvs ++ [(k, w)]) (vs ++ [(k, u)])
  | [], _, k, w, u, rw', h => by
    rw [show _ = [] from h]
    exact ⟨u, [], rfl, rw', rfl⟩
  | x :: xs, _, k, w, u, rw', ⟨v, r, e, h, t⟩ => by
    rw [e]
    exact ⟨v, _, rfl, h, RelKs.snoc k rw' t⟩
theorem RelKs.put {kvs : List (α × W)} {vs : List (α × V)} (k : α) {w : W} {u : V} (ru : RelW K F w u) (r : RelKs K F kvs vs) : RelKs K F (putKW kvs k w) (putK vs k u) := by
  unfold putKW putK
  rw [r.anyK k]
  split
  · exact r.repl k ru
  · exact r.snoc k ru
end
theorem keyW_low {K : PySem.W.Frag} {F : Hp} {w : W} {v : V} {k : Key} (r : RelW K F w v) (h : keyW w = some k) : v = kV k := by
  cases w with
  | int i => cases h; exact r
  | str x => cases h; exact r
  | _ => cases h
def dgetW : R2W := fun x y H Q => ∃ a kvs k v, x = .ref a ∧ H a = some (.dct kvs) ∧ keyW y = some k ∧ valW kvs k = some v ∧ Q v H
/-- what the dict x holds at y -/
theorem dget_low {K : PySem.W.Frag} {F : Hp} {a : Addr} {y : W} {v' : V} {kvs : List (Key × W)} {k : Key} {H' : Hw} {H : Hp} (ry : RelW K F y v') (A : AbH K F H' H) (h1 : H' a = some (.dct kvs)) (h2 : keyW y = some k) :
    ∃ o, DGet H a v' o ∧ (∀ w, valW kvs k = some w → ∃ v, o = some v ∧ RelW K F w v) ∧ (valW kvs k = none → o = none) := by
  obtain ⟨vs, e, r⟩ := A.dict h1
  obtain ⟨p, q⟩ := r.val k
  rw [keyW_low ry h2]
  exact ⟨valV vs k, .k e, p, q⟩

/-! ### isinstance -/
def tyW (H : Hw) : W → Option String
  | .non => some "NoneType"
  | .bl _ => some "bool"
  | .int _ => some "int"
  | .str _ => some "str"
  | .tup _ => some "tuple"
  | .fls _ => some "list"
  | .scr _ => none
  | .ref a => match H a with
    | some (.lst _) => some "list"
    | some (.dct _) => some "dict"
    | _ => none
theorem tyW_low {K : PySem.W.Frag} {F : Hp} {w : W} {v : V} {H' : Hw} {H : Hp} {t : String} (r : RelW K F w v) (A : AbH K F H' H) (h : tyW H' w = some t) : TyX K H v (.type t) := by
  cases w with
  | non => cases h; rw [show v = V.non from r]; exact .base .non
  | bl b => cases h; rw [show v = V.bl b from r]; exact .base (.bl b)
  | int b => cases h; rw [show v = V.int b from r]; exact .base (.int b)
  | str b => cases h; rw [show v = V.str b from r]; exact .base (.str b)
  | tup xs => cases h; obtain ⟨a, vs, e, q, _⟩ := r; rw [e]; exact .base (.tup (A.sub _ _ q))
  | fls xs => cases h; obtain ⟨a, vs, e, q, _⟩ := r; rw [e]; exact .base (.lst (A.sub _ _ q))
  | scr ns => cases h
  | ref a =>
    rw [show v = V.ref a from r]
    unfold tyW at h
    cases e : H' a with
    | none => simp only [e] at h; cases h
    | some o =>
      cases o with
      | lst xs => simp only [e] at h; cases h; obtain ⟨vs, q, _⟩ := A.list e; exact .base (.lst q)
      | dct xs => simp only [e] at h; cases h; obtain ⟨vs, q, _⟩ := A.dict e; exact .base (.dK q)
      | ins C fs => simp only [e] at h; cases h

/-! ### built-in calls by their names -/
def maxI (i j : Int) : Int := if j > i then j else i
def minI (i j : Int) : Int := if j < i then j else i
def callW (f : Str) : RLW := fun ws H Q =>
  if f = "len" then ∃ w, ws = [w] ∧ ((∃ xs, seqA H w xs ∧ Q (.int xs.length) H) ∨ (∃ a kvs, w = .ref a ∧ H a = some (.dct kvs) ∧ Q (.int kvs.length) H) ∨ ∃ x, w = .str x ∧ x.length ≤ sizeLine ∧ Q (.int x.length) H)
  else if f = "list" then ∃ w xs, ws = [w] ∧ seqA H w xs ∧ newL xs H Q
  else if f = "tuple" then ∃ w, ws = [w] ∧ ((∃ xs, seqL H w xs ∧ Q (.tup xs) H) ∨ ∃ xs, w = .tup xs ∧ Q (.tup xs) H)
  else if f = "sorted" then ∃ w, ws = [w] ∧ ((∃ ns : List Int, seqL H w (ns.map W.int) ∧ ∀ ns' : List Int, ns'.Perm ns → ns'.Pairwise (· ≤ ·) → newL (ns'.map W.int) H Q) ∨
      ∃ (a : Addr) (kvs : List (Key × W)) (ks : List Int), w = .ref a ∧ H a = some (.dct kvs) ∧ kvs.map (·.1) = ks.map Sum.inl ∧ ks.length < 64 ∧ ∀ ns' : List Int, ns'.Perm ks → ns'.Pairwise (· ≤ ·) → newL (ns'.map W.int) H Q)
  else if f = "max" then (∃ i j, ws = [.int i, .int j] ∧ Q (.int (maxI i j)) H) ∨ ∃ w, ∃ ns : List Int, ws = [w] ∧ seqL H w (ns.map W.int) ∧ 0 < ns.length ∧ ∀ m, m ∈ ns → (∀ y, y ∈ ns → y ≤ m) → Q (.int m) H
  else if f = "min" then ∃ i j, ws = [.int i, .int j] ∧ Q (.int (minI i j)) H
  else if f = "int" then (∃ b, ws = [.bl b] ∧ Q (.int (if b then 1 else 0)) H) ∨ ∃ i, ws = [.int i] ∧ Q (.int i) H
  else False
/-- is the name a built-in function, or a built-in class -/
def builtinIs (f : Str) : Option Value :=
  if f = "len" then some (.builtin "len") else if f = "list" then some (.type "list") else if f = "tuple" then some (.type "tuple") else if f = "sorted" then some (.builtin "sorted")
  else if f = "max" then some (.builtin "max") else if f = "min" then some (.builtin "min") else if f = "int" then some (.type "int") else none
section
variable {K : PySem.W.Frag} {F : Hp} {H' : Hw} {H : Hp} {Q' : KW} {Q : VK}
theorem len_low : ListLow K (fun ws H Q => ∃ w, ws = [w] ∧ ((∃ xs, seqA H w xs ∧ Q (.int xs.length) H) ∨ (∃ a kvs, w = .ref a ∧ H a = some (.dct kvs) ∧ Q (.int kvs.length) H) ∨ ∃ x, w = .str x ∧ x.length ≤ sizeLine ∧ Q (.int x.length) H))
    (fun xs H Q => (∃ x n, xs = [x] ∧ LenV K x H n ∧ Q (.int n) H) ∨ ∃ a kvs, xs = [V.ref a] ∧ H a = some (.dK kvs) ∧ Q (.int kvs.length) H) := by
  intro F ws vs H' H Q' Q r A q h
  obtain ⟨w, rfl, h⟩ := h
  obtain ⟨v, rfl, rv⟩ := r.one
  rcases h with ⟨xs, h1, h2⟩ | ⟨a, kvs, rfl, h1, h2⟩ | ⟨x, rfl, h1, h2⟩
  · obtain ⟨a, vs, rfl, q1, t⟩ := seqA_low A rv h1
    refine .inl ⟨_, vs.length, rfl, ?_, by rw [← t.length]; exact q.int A h2⟩
    exact q1.elim (fun z => .inl ⟨vs, z, rfl⟩) fun z => .inr ⟨vs, z, rfl⟩
  · obtain ⟨vs, e, t⟩ := A.dict h1
    exact .inr ⟨a, vs, by rw [show v = V.ref a from rv], e, by rw [← t.length]; exact q.int A h2⟩
  · exact .inl ⟨v, x.length, rfl, by rw [show v = V.str x from rv]; exact ⟨h1, rfl⟩, q.int A h2⟩
theorem list_low : ListLow K (fun ws H Q => ∃ w xs, ws = [w] ∧ seqA H w xs ∧ newL xs H Q) (fun xs H Q => ∃ p ys, xs = [.ref p] ∧ (SqL K H p ys ∨ SqT K H p ys) ∧ ∀ l, H l = none → Q (.ref l) (upd H l (.lst ys))) := by
  intro F ws vs H' H Q' Q r A q h
  obtain ⟨w, xs, rfl, h1, h2⟩ := h
  obtain ⟨v, rfl, rv⟩ := r.one
  obtain ⟨a, vs, rfl, q1, t⟩ := seqA_low A rv h1
  exact ⟨a, vs, rfl, q1, newL_low A q t h2⟩
theorem tuple_low : ListLow K (fun ws H Q => ∃ w, ws = [w] ∧ ((∃ xs, seqL H w xs ∧ Q (.tup xs) H) ∨ ∃ xs, w = .tup xs ∧ Q (.tup xs) H))
    (fun xs H Q => ∃ p ys, xs = [.ref p] ∧ ((SqL K H p ys ∧ ∀ l, H l = none → Q (.ref l) (upd H l (.tup ys))) ∨ (SqT K H p ys ∧ Q (.ref p) H))) := by
  intro F ws vs H' H Q' Q r A q h
  obtain ⟨w, rfl, h⟩ := h
  obtain ⟨v, rfl, rv⟩ := r.one
  rcases h with ⟨xs, h1, h2⟩ | ⟨xs, rfl, h2⟩
  · obtain ⟨a, vs, rfl, q1, t⟩ := seqL_low A rv h1
    exact ⟨a, vs, rfl, .inl ⟨q1, newT_low A q t h2⟩⟩
  · obtain ⟨a, vs, e, q1, t⟩ := id rv
    refine ⟨a, vs, by rw [e], .inr ⟨SqT.of (A.sub _ _ q1), ?_⟩⟩
    rw [e] at rv
    exact q.at A rv h2
theorem sorted_low : ListLow K (fun ws H Q => ∃ w, ws = [w] ∧ ((∃ ns : List Int, seqL H w (ns.map W.int) ∧ ∀ ns' : List Int, ns'.Perm ns → ns'.Pairwise (· ≤ ·) → newL (ns'.map W.int) H Q) ∨
      ∃ (a : Addr) (kvs : List (Key × W)) (ks : List Int), w = .ref a ∧ H a = some (.dct kvs) ∧ kvs.map (·.1) = ks.map Sum.inl ∧ ks.length < 64 ∧ ∀ ns' : List Int, ns'.Perm ks → ns'.Pairwise (· ≤ ·) → newL (ns'.map W.int) H Q))
    (fun xs H Q => rSortedI K xs H Q ∨ ∃ (a : Addr) (kvs : List (Key × V)) (ks : List Int), xs = [.ref a] ∧ Rd H a (.dK kvs) ∧ kvs.map (·.1) = ks.map Sum.inl ∧ ks.length < 64 ∧
      ∀ (ys : List Int) (p : Addr), ys.Perm ks → ys.Pairwise (· ≤ ·) → H p = none → Q (.ref p) (upd H p (.lst (ys.map V.int)))) := by
  intro F ws vs H' H Q' Q r A q h
  obtain ⟨w, rfl, h⟩ := h
  obtain ⟨v, rfl, rv⟩ := r.one
  rcases h with ⟨ns, h1, h2⟩ | ⟨a, kvs, ks, rfl, h1, h2, h3, h4⟩
  · obtain ⟨a, vs, rfl, q1, t⟩ := seqL_low A rv h1
    rw [RelWs.ints t] at q1
    exact .inl ⟨a, ns, rfl, q1, fun ns' p hp hw hn => newL_low A q (RelWs.of_ints ns') (h2 ns' hp hw) p hn⟩
  · obtain ⟨vs, e, t⟩ := A.dict h1
    have ek : ∀ {l : List (Key × W)} {m : List (Key × V)}, RelKs K F l m → l.map (·.1) = m.map (·.1) := by
      intro l
      induction l with
      | nil => intro m z; rw [show m = [] from z]; rfl
      | cons x l ih => intro m z; obtain ⟨u, m', e, _, z'⟩ := z; rw [e, List.map_cons, List.map_cons, ih z']
    exact .inr ⟨a, vs, ks, by rw [show v = V.ref a from rv], .inl e, by rw [← ek t]; exact h2, h3, fun ns' p hp hw hn => newL_low A q (RelWs.of_ints ns') (h4 ns' hp hw) p hn⟩
theorem max_low : ListLow K (fun ws H Q => (∃ i j, ws = [.int i, .int j] ∧ Q (.int (maxI i j)) H) ∨ ∃ w, ∃ ns : List Int, ws = [w] ∧ seqL H w (ns.map W.int) ∧ 0 < ns.length ∧ ∀ m, m ∈ ns → (∀ y, y ∈ ns → y ≤ m) → Q (.int m) H)
    (fun xs H Q => (∃ i j, xs = [.int i, .int j] ∧ Q (.int (if j > i then j else i)) H) ∨ rMax K xs H Q) := by
  intro F ws vs H' H Q' Q r A q h
  rcases h with ⟨i, j, rfl, h⟩ | ⟨w, ns, rfl, h1, h2, h3⟩
  · obtain ⟨v, v', rfl, r1, r2⟩ := r.two
    exact .inl ⟨i, j, by rw [show v = V.int i from r1, show v' = V.int j from r2], q.int A h⟩
  · obtain ⟨v, rfl, rv⟩ := r.one
    obtain ⟨a, vs, rfl, q1, t⟩ := seqL_low A rv h1
    rw [RelWs.ints t] at q1
    exact .inr ⟨a, ns, rfl, q1, h2, fun m hm hle => q.int A (h3 m hm hle)⟩
theorem min_low : ListLow K (fun ws H Q => ∃ i j, ws = [.int i, .int j] ∧ Q (.int (minI i j)) H) (fun xs H Q => ∃ i j, xs = [.int i, .int j] ∧ Q (.int (if j < i then j else i)) H) := by
  intro F ws vs H' H Q' Q r A q h
  obtain ⟨i, j, rfl, h⟩ := h
  obtain ⟨v, v', rfl, r1, r2⟩ := r.two
  exact ⟨i, j, by rw [show v = V.int i from r1, show v' = V.int j from r2], q.int A h⟩
theorem int_low : ListLow K (fun ws H Q => (∃ b, ws = [.bl b] ∧ Q (.int (if b then 1 else 0)) H) ∨ ∃ i, ws = [.int i] ∧ Q (.int i) H)
    (fun xs H Q => (∃ i, xs = [.int i] ∧ Q (.int i) H) ∨ ∃ k, xs = [.bl k] ∧ Q (.int (if k then 1 else 0)) H) := by
  intro F ws vs H' H Q' Q r A q h
  rcases h with ⟨b, rfl, h⟩ | ⟨i, rfl, h⟩
  · obtain ⟨v, rfl, rv⟩ := r.one
    exact .inr ⟨b, by rw [show v = V.bl b from rv], q.int A h⟩
  · obtain ⟨v, rfl, rv⟩ := r.one
    exact .inl ⟨i, by rw [show v = V.int i from rv], q.int A h⟩
end
/-- a built-in of the table, called -/
theorem callW_ok {X : Cx} (hc : X.calm = true) {f : Str} {u : Value} (hu : builtinIs f = some u) : ∃ rV, CallR X u rV ∧ ListLow X.K (callW f) rV := by
  unfold builtinIs at hu
  unfold callW
  by_cases h1 : f = "len"
  · rw [if_pos h1] at hu; cases hu
    refine ⟨_, call_len.or call_lenD, ?_⟩
    simp only [if_pos h1]
    exact len_low
  rw [if_neg h1] at hu
  simp only [if_neg h1]
  by_cases h2 : f = "list"
  · rw [if_pos h2] at hu; cases hu
    refine ⟨_, call_list_of, ?_⟩
    simp only [if_pos h2]
    exact list_low
  rw [if_neg h2] at hu
  simp only [if_neg h2]
  by_cases h3 : f = "tuple"
  · rw [if_pos h3] at hu; cases hu
    refine ⟨_, call_tuple_of, ?_⟩
    simp only [if_pos h3]
    exact tuple_low
  rw [if_neg h3] at hu
  simp only [if_neg h3]
  by_cases h4 : f = "sorted"
  · rw [if_pos h4] at hu; cases hu
    refine ⟨_, cr_sortedI.or (call_sortedDI hc), ?_⟩
    simp only [if_pos h4]
    exact sorted_low
  rw [if_neg h4] at hu
  simp only [if_neg h4]
  by_cases h5 : f = "max"
  · rw [if_pos h5] at hu; cases hu
    refine ⟨_, (call_max2 hc).or (cr_max hc), ?_⟩
    simp only [if_pos h5]
    exact max_low
  rw [if_neg h5] at hu
  simp only [if_neg h5]
  by_cases h6 : f = "min"
  · rw [if_pos h6] at hu; cases hu
    refine ⟨_, call_min2 hc, ?_⟩
    simp only [if_pos h6]
    exact min_low
  rw [if_neg h6] at hu
  simp only [if_neg h6]
  by_cases h7 : f = "int"
  · rw [if_pos h7] at hu; cases hu
    refine ⟨_, call_int1, ?_⟩
    simp only [if_pos h7]
    exact int_low
  rw [if_neg h7] at hu
  cases hu
end WL

/-! ## A small syntax, what it means over the value layer, and how a def of the text is read into it -/
namespace WL
open PySem L2

abbrev SpW := List W → Hw → KW → EW → Prop
/-- what is known of the module's names: functions, methods, classes, attributes, constants, exceptions -/
structure Gm where
  fn : Str → SpW → Prop
  mth : Addr → Str → SpW → Prop
  made : Str → Addr → SpW → Prop
  fld : Addr → Str → Prop
  int : Str → Int → Prop
  exc : Str → Addr → Prop
  exm : Addr → Str → Bool → Prop

mutual
inductive CE where
  | var (i : Nat) | lit (w : W) | gint (x : Str)
  | lst (es : CEs) | tup (es : CEs)
  | bin (o : Operator) (a b : CE) | neg (a : CE)
  | cmp (o : CmpOp) (a b : CE) | chn (o1 o2 : CmpOp) (a b c : CE)
  | andV (a b : CE) | orV (a b : CE) | notV (a : CE)
  | ife (t : CT) (a b : CE)
  | fld (e : CE) (f : Str)
  | ix (e i : CE) | slc (e : CE) (lo hi : CO) | rev (e : CE)
  | bcl (f : Str) (es : CEs) | isi (e : CE) (T : String)
  | call (f : Str) (es : CEs) | mk (c : Str) (es : CEs) | mth (e : CE) (m : Str) (es : CEs)
  | app (o e : CE) | ext (o e : CE) | pop (o i : CE) | get1 (o k : CE) | get2 (o k d : CE) | setd (o k d : CE)
  | lcm (elt : CE) (i : Nat) (it : CI) (t : CU)
  | dnew | dct (ps : CPs)
  | lrng (a : CE)
inductive CEs where
  | nil | cons (e : CE) (r : CEs)
inductive CPs where
  | nil | cons (k v : CE) (r : CPs)
inductive CO where
  | no | so (e : CE)
inductive CT where
  | ands (a b : CT) | ors (a b : CT) | not (a : CT) | tru (e : CE)
inductive CI where
  | ex (e : CE) | r1 (a : CE) | r2 (a b : CE) | r3 (a b c : CE)
inductive CU where
  | no | so (t : CT)
end
inductive CS where
  | set (i : Nat) (e : CE)
  | fset (o : CE) (f : Str) (e : CE)
  | iset (o i e : CE)
  | unp (is : List Nat) (e : CE)
  | expr (e : CE)
  | ret (e : CE)
  | retN
  | ifs (t : CT) (a b : List CS)
  | for_ (i : Nat) (it : CI) (b : List CS)
  | whl (t : CT) (b : List CS)
  | raise (C : Str)
  | try_ (b : List CS) (C : Str) (w : W)
  | pass

/-! ### what it means -/
def putFW (f : Str) (v : W) : List (Str × W) → List (Str × W)
  | [] => [(f, v)]
  | (g, x) :: r => if g = f then (g, v) :: r else (g, x) :: putFW f v r
abbrev TOW := Sw → Hw → (Option Int → Hw → Prop) → EW → Prop
/-- what is walked: the items, and what must hold at each turn -/
abbrev TIW := Sw → Hw → (List W → (Hw → Prop) → Hw → Prop) → EW → Prop
def fldW (g : Gm) (f : Str) : W → Hw → KW → Prop := fun x H Q => match x with
  | .ref a => ∃ C fs w, H a = some (.ins C fs) ∧ g.fld C f ∧ fs.lookup f = some w ∧ Q w H
  | _ => False
def appW : W → W → Hw → KW → Prop := fun x y H Q => match x with
  | .ref a => ∃ xs, H a = some (.lst xs) ∧ xs.length < sizeLine ∧ Q .non (updW H a (.lst (xs ++ [y])))
  | _ => False
def extW : W → W → Hw → KW → Prop := fun x y H Q => match x with
  | .ref a => ∃ xs ys, H a = some (.lst xs) ∧ seqM H y ys ∧ xs.length + ys.length ≤ sizeLine ∧ Q .non (updW H a (.lst (xs ++ ys)))
  | _ => False
def popW : W → W → Hw → KW → Prop := fun x y H Q => match x, y with
  | .ref a, .int i => ∃ xs k w, H a = some (.lst xs) ∧ i = (k : Nat) ∧ i < 2 ^ 63 ∧ xs[k]? = some w ∧ Q w (updW H a (.lst (xs.eraseIdx k)))
  | _, _ => False
def isLst (x : W) (H : Hw) : Prop := ∃ xs, seqL H x xs
def isDct (x : W) (H : Hw) : Prop := ∃ a kvs, x = .ref a ∧ H a = some (.dct kvs)
def revW (x : W) (H : Hw) (Q : KW) : Prop := ∃ xs, seqL H x xs ∧ newL xs.reverse H Q
def compGo (D : Addr) (σ : Sw) (i : Nat) (stay : Hw → Prop) (t : TTW) (elt : TEW) (Q : Hw → Prop) : List W → Hw → Prop
  | [], H => stay H ∧ Q H
  | x :: r, H => stay H ∧ t (σ.set i (some x)) H (fun b H1 => if b = true then elt (σ.set i (some x)) H1 (fun y H2 => ∃ acc, H2 D = some (.lst acc) ∧ acc.length < sizeLine ∧ compGo D σ i stay t elt Q r (updW H2 D (.lst (acc ++ [y])))) (fun _ _ => False)
      else compGo D σ i stay t elt Q r H1) (fun _ _ => False)
def compW (i : Nat) (it : TIW) (t : TTW) (elt : TEW) : TEW := fun σ H Q E => it σ H (fun items stay H1 => ∀ D, H1 D = none →
  compGo D (σ.set i none) i stay t elt (fun H2 => Q (.ref D) H2 ∨ ∃ acc, H2 D = some (.lst acc) ∧ Q (.fls acc) (delW H2 D)) items (updW H1 D (.lst []))) E
def rngW (lo : Int) (n : Nat) (c : Int) : List W := (List.range n).map fun (k : Nat) => .int (lo + (k : Int) * c)
def slcW (e : TEW) (lo hi : TOW) : TEW := fun σ H Q E => e σ H (fun x H1 => lo σ H1 (fun l H2 => hi σ H2 (fun u H3 => slW x l u H3 Q) E) E) E
mutual
def denE (g : Gm) : CE → TEW
  | .var i => fun σ H Q _ => ∃ w, σ[i]? = some (some w) ∧ Q w H
  | .lit w => fun _ H Q _ => Q w H
  | .gint x => fun _ H Q _ => ∃ i, g.int x i ∧ Q (.int i) H
  | .lst es => fun σ H Q E => denA g es σ H (fun ws H1 => ws.length ≤ sizeLine ∧ newL ws H1 Q) E
  | .tup es => fun σ H Q E => denA g es σ H (fun ws H1 => ws.length ≤ sizeLine ∧ Q (.tup ws) H1) E
  | .bin o a b => tOpW (binW o) (denE g a) (denE g b)
  | .neg a => tUnW (fun x H Q => match x with
    | .int i => Q (.int (-i)) H
    | _ => False) (denE g a)
  | .cmp o a b => tOpW (cmpW o) (denE g a) (denE g b)
  | .chn o1 o2 a b c => fun σ H Q E => denE g a σ H (fun x H1 => denE g b σ H1 (fun y H2 => cmpW0 o1 x y H2 fun z H3 => ∃ k, z = .bl k ∧ (if k = true then denE g c σ H3 (fun w H4 => cmpW0 o2 y w H4 Q) E else Q (.bl false) H3)) E) E
  | .andV a b => fun σ H Q E => denE g a σ H (fun x H1 => ∃ c, x = .bl c ∧ if c = true then denE g b σ H1 Q E else Q (.bl false) H1) E
  | .orV a b => fun σ H Q E => denE g a σ H (fun x H1 => ∃ c, x = .bl c ∧ if c = true then Q (.bl true) H1 else denE g b σ H1 Q E) E
  | .notV a => fun σ H Q E => denE g a σ H (fun x H1 => ∃ c, x = .bl c ∧ Q (.bl (!c)) H1) E
  | .ife t a b => fun σ H Q E => denT g t σ H (fun c H1 => if c = true then denE g a σ H1 Q E else denE g b σ H1 Q E) E
  | .fld e f => tUnW (fldW g f) (denE g e)
  | .ix e i => tOpW (fun x y H Q => ixW x y H Q ∨ dgetW x y H Q) (denE g e) (denE g i)
  | .slc e lo hi => slcW (denE g e) (denO g lo) (denO g hi)
  | .rev e => tUnW revW (denE g e)
  | .bcl f es => fun σ H Q E => denA g es σ H (fun ws H1 => callW f ws H1 Q) E
  | .isi e T => tUnW (fun x H Q => ∃ t b, tyW H x = some t ∧ kitB t T = some b ∧ Q (.bl b) H) (denE g e)
  | .call f es => fun σ H Q E => ∃ sp, g.fn f sp ∧ denA g es σ H (fun ws H1 => sp ws H1 Q E) E
  | .mk c es => fun σ H Q E => ∃ C sp, g.made c C sp ∧ denA g es σ H (fun ws H1 => ∀ x, H1 x = none → sp (.ref x :: ws) (updW H1 x (.ins C [])) (fun v H2 => v = .non ∧ Q (.ref x) H2) E) E
  | .mth e m es => fun σ H Q E => denE g e σ H (fun x H1 => ∃ a C fs sp, x = .ref a ∧ H1 a = some (.ins C fs) ∧ g.mth C m sp ∧ fs.lookup m = none ∧ denA g es σ H1 (fun ws H2 => sp (x :: ws) H2 Q E) E) E
  | .app o e => fun σ H Q E => denE g o σ H (fun x H1 => isLst x H1 ∧ denE g e σ H1 (fun y H2 => appW x y H2 Q) E) E
  | .ext o e => fun σ H Q E => denE g o σ H (fun x H1 => isLst x H1 ∧ denE g e σ H1 (fun y H2 => extW x y H2 Q) E) E
  | .pop o e => fun σ H Q E => denE g o σ H (fun x H1 => isLst x H1 ∧ denE g e σ H1 (fun y H2 => popW x y H2 Q) E) E
  | .get1 o k => fun σ H Q E => denE g o σ H (fun x H1 => isDct x H1 ∧ denE g k σ H1 (fun y H2 => ∃ a kvs j, x = .ref a ∧ H2 a = some (.dct kvs) ∧ keyW y = some j ∧ Q ((valW kvs j).getD .non) H2) E) E
  | .get2 o k d => fun σ H Q E => denE g o σ H (fun x H1 => isDct x H1 ∧ denE g k σ H1 (fun y H2 => denE g d σ H2 (fun z H3 => ∃ a kvs j, x = .ref a ∧ H3 a = some (.dct kvs) ∧ keyW y = some j ∧ Q ((valW kvs j).getD z) H3) E) E) E
  | .setd o k d => fun σ H Q E => denE g o σ H (fun x H1 => isDct x H1 ∧ denE g k σ H1 (fun y H2 => denE g d σ H2 (fun z H3 => ∃ a kvs j, x = .ref a ∧ H3 a = some (.dct kvs) ∧ keyW y = some j ∧ kvs.length < sizeLine ∧
      (∀ v, valW kvs j = some v → Q v H3) ∧ (valW kvs j = none → Q z (updW H3 a (.dct (putKW kvs j z))))) E) E) E
  | .lcm elt i it t => compW i (denI g it) (denU g t) (denE g elt)
  | .dnew => fun _ H Q _ => ∀ p, H p = none → Q (.ref p) (updW H p (.dct []))
  | .dct ps => fun σ H Q E => ∀ p, H p = none → denP g ps σ (updW H p (.dct [])) (fun kvs H2 => H2 p = some (.dct []) ∧ kvs.length ≤ 15 ∧ Q (.ref p) (updW H2 p (.dct (kvs.foldl (fun acc kv => putKW acc kv.1 kv.2) [])))) E
  | .lrng a => fun σ H Q E => denE g a σ H (fun x H1 => ∃ n : Nat, x = .int n ∧ n ≤ 1000 ∧ newL (rngW 0 n 1) H1 Q) E
def denA (g : Gm) : CEs → TAW
  | .nil => tNilW
  | .cons e r => tConsW (denE g e) (denA g r)
/-- the pairs of a display, keys first -/
def denP (g : Gm) : CPs → Sw → Hw → (List (Key × W) → Hw → Prop) → EW → Prop
  | .cons k v r => fun σ H Q E => denE g k σ H (fun x H1 => denE g v σ H1 (fun y H2 => denP g r σ H2 (fun ps H3 => ∃ j, keyW x = some j ∧ Q ((j, y) :: ps) H3) E) E) E
  | .nil => fun _ H Q _ => Q [] H
def denO (g : Gm) : CO → TOW
  | .no => fun _ H Q _ => Q none H
  | .so e => fun σ H Q E => denE g e σ H (fun x H1 => ∃ i, x = .int i ∧ Q (some i) H1) E
def denT (g : Gm) : CT → TTW
  | .ands a b => fun σ H Q E => denT g a σ H (fun c H1 => if c = true then denT g b σ H1 Q E else Q false H1) E
  | .ors a b => fun σ H Q E => denT g a σ H (fun c H1 => if c = true then Q true H1 else denT g b σ H1 Q E) E
  | .not a => fun σ H Q E => denT g a σ H (fun c H1 => Q (!c) H1) E
  | .tru e => fun σ H Q E => denE g e σ H (fun x H1 => ∃ b, x = .bl b ∧ Q b H1) E
def denI (g : Gm) : CI → TIW
  | .ex e => fun σ H Q E => denE g e σ H (fun x H1 => ∃ xs, seqA H1 x xs ∧ Q xs (fun H => seqA H x xs) H1) E
  | .r1 a => fun σ H Q E => denE g a σ H (fun x H1 => ∃ n : Int, x = .int n ∧ -(2 ^ 62) ≤ n ∧ n < 2 ^ 62 ∧ Q (rngW 0 n.toNat 1) (fun _ => True) H1) E
  | .r2 a b => fun σ H Q E => denE g a σ H (fun x H1 => denE g b σ H1 (fun y H2 => ∃ i j : Int, x = .int i ∧ y = .int j ∧ (-(2 ^ 62) ≤ i ∧ i < 2 ^ 62 ∧ -(2 ^ 62) ≤ j ∧ j < 2 ^ 62) ∧ Q (rngW i (j - i).toNat 1) (fun _ => True) H2) E) E
  | .r3 a b c => fun σ H Q E => denE g a σ H (fun x H1 => denE g b σ H1 (fun y H2 => denE g c σ H2 (fun z H3 => ∃ i j k n, x = .int i ∧ y = .int j ∧ z = .int k ∧ RgC i j k n ∧ Q (rngW i n k) (fun _ => True) H3) E) E) E
def denU (g : Gm) : CU → TTW
  | .no => fun _ H Q _ => Q true H
  | .so t => denT g t
end

structure EndW where
  nx : Sw → Hw → Prop
  rt : KW
  bk : Sw → Hw → Prop
  ct : Sw → Hw → Prop
  ex : Addr → Sw → Hw → Prop
abbrev TSW := EndW → Sw → Hw → Prop
def seqW (a b : TSW) : TSW := fun D σ H => a { D with nx := b D } σ H
def loopW (stay : Hw → Prop) (i : Nat) (b : TSW) (D : EndW) : List W → Sw → Hw → Prop
  | [], σ, H => stay H ∧ D.nx σ H
  | x :: r, σ, H => stay H ∧ b { D with nx := loopW stay i b D r, ct := loopW stay i b D r, bk := D.nx } (σ.set i (some x)) H
def whileW (t : TTW) (b : TSW) (D : EndW) : Nat → Sw → Hw → Prop
  | 0, _, _ => False
  | n + 1, σ, H => t σ H (fun c H1 => if c = true then b { D with nx := whileW t b D n, ct := whileW t b D n, bk := D.nx } σ H1 else D.nx σ H1) (fun C H1 => D.ex C σ H1)
def setAll : List Nat → List W → Sw → Sw
  | i :: is, w :: ws, σ => setAll is ws (σ.set i (some w))
  | _, _, σ => σ
mutual
def denS (g : Gm) : CS → TSW
  | .set i e => fun D σ H => denE g e σ H (fun x H1 => D.nx (σ.set i (some x)) H1) fun C H1 => D.ex C σ H1
  | .fset o f e => fun D σ H => denE g e σ H (fun y H1 => denE g o σ H1 (fun x H2 => ∃ a C fs, x = .ref a ∧ H2 a = some (.ins C fs) ∧ g.fld C f ∧ fs.length < 1000 ∧ D.nx σ (updW H2 a (.ins C (putFW f y fs)))) fun C H1 => D.ex C σ H1) fun C H1 => D.ex C σ H1
  | .iset o i e => fun D σ H => denE g e σ H (fun y H1 => denE g o σ H1 (fun x H2 => denE g i σ H2 (fun z H3 =>
      (∃ a kvs j, x = .ref a ∧ H3 a = some (.dct kvs) ∧ keyW z = some j ∧ kvs.length < sizeLine ∧ D.nx σ (updW H3 a (.dct (putKW kvs j y)))) ∨
      ∃ a xs j n, x = .ref a ∧ H3 a = some (.lst xs) ∧ z = .int j ∧ ixN xs.length j = some n ∧ D.nx σ (updW H3 a (.lst (xs.set n y)))) fun C H1 => D.ex C σ H1) fun C H1 => D.ex C σ H1) fun C H1 => D.ex C σ H1
  | .unp is e => fun D σ H => denE g e σ H (fun x H1 => ∃ ws, x = .tup ws ∧ ws.length = is.length ∧ D.nx (setAll is ws σ) H1) fun C H1 => D.ex C σ H1
  | .expr e => fun D σ H => denE g e σ H (fun _ H1 => D.nx σ H1) fun C H1 => D.ex C σ H1
  | .ret e => fun D σ H => denE g e σ H D.rt fun C H1 => D.ex C σ H1
  | .retN => fun D _ H => D.rt .non H
  | .ifs t a b => fun D σ H => denT g t σ H (fun c H1 => if c = true then denB g a D σ H1 else denB g b D σ H1) fun C H1 => D.ex C σ H1
  | .for_ i it b => fun D σ H => denI g it σ H (fun xs stay H1 => loopW stay i (denB g b) D xs σ H1) fun C H1 => D.ex C σ H1
  | .whl t b => fun D σ H => ∃ n, whileW (denT g t) (denB g b) D n σ H
  | .raise x => fun D σ H => ∃ C, g.exc x C ∧ D.ex C σ H
  | .try_ b x w => fun D σ H => (∃ C k, g.exm C x k) ∧ denB g b { D with ex := fun C σ1 H1 => ∃ k, g.exm C x k ∧ (k = true → D.rt w H1) ∧ (k = false → D.ex C σ1 H1) } σ H
  | .pass => fun D σ H => D.nx σ H
def denB (g : Gm) : List CS → TSW
  | [] => fun D σ H => D.nx σ H
  | s :: r => seqW (denS g s) (denB g r)
end
end WL

/-! ## The rules over the value layer -/
namespace WL
open PySem L2

/-! ### what must be seen of the text -/
def notStar : Expr → Bool
  | .Starred _ _ => false
  | _ => true
theorem starEach_cons {e : Expr} {es : List Expr} {env : Env} (h : notStar e = true) : starEach (e :: es) env = (false, eval e env) :: starEach es env := by
  cases e <;> first | rfl | cases h
theorem stars_none {env : Env} : ∀ {es : List Expr}, es.all notStar = true → (starEach es env).any (·.1) = false
  | [], _ => rfl
  | e :: es, h => by
    rw [List.all_cons, Bool.and_eq_true] at h
    rw [starEach_cons h.1, List.any_cons, stars_none h.2]
    rfl
theorem backTo_any {pos : Pos} {env : Env} {es : List Expr} (h : es.all notStar = true) : (backTo pos (starEach es env)).any (·.1) = false := by
  have e := stars_none (env := env) h
  unfold backTo
  rw [List.any_map]
  exact e
theorem backTo_all {pos : Pos} {env : Env} {es : List Expr} (h : es.all notStar = true) : (backTo pos (starEach es env)).all (fun x => !x.1) = true := by
  have e := backTo_any (pos := pos) (env := env) h
  rw [List.all_eq_not_any_not]
  simp only [Bool.not_not]
  rw [e]
  rfl
def plainBase : Expr → Bool
  | .Call (.Name _ _) _ _ _ => false
  | _ => true
theorem base_of {o : Expr} {m : Str} {env : Env} {w : Sem Value} (h : plainBase o = true) : attributeBase o m env w = w := by
  cases o with
  | Call f args kws pos => cases f <;> first | rfl | cases h
  | _ => rfl
def plainTest : Expr → Bool
  | .UnaryOp _ _ _ => false
  | .BoolOp _ _ _ => false
  | .IfExp _ _ _ _ => false
  | .Compare _ _ _ _ => false
  | _ => true
theorem test_of {e : Expr} {env : Env} (h : plainTest e = true) (whole : Sem Value) : isTrue e env whole = (do let v ← whole; standAt e.pos; holding [v] (truthy v)) := by
  cases e <;> first | rfl | cases h
def notComp : Expr → Bool
  | .ListComp _ _ _ _ => false
  | .SetComp _ _ _ _ => false
  | .DictComp _ _ _ _ _ => false
  | _ => true
theorem swaps_of {e : Expr} {t : Option Expr} {l : Nat} {env : Env} (h : notComp e = true) : swapsWith e t l env = pure false := by
  cases e <;> first | rfl | cases h
def notSet : Expr → Bool
  | .Set _ _ _ => false
  | _ => true
theorem folded_of {e : Expr} {env : Env} (h : notSet e = true) (x : Value) : foldedSetIterable e env x = pure x := by
  cases e <;> first | rfl | cases h
def notSlice : Expr → Bool
  | .Slice _ _ _ _ => false
  | _ => true
theorem ix_of {e : Expr} (h : notSlice e = true) (o i : Value) : subscripted e false o i = operate [o, i] (getItem o i) := by
  cases e <;> first | rfl | cases h
theorem meth_eq {o : Expr} {m : Str} {apos pos : Pos} {args : List Expr} {env : Env} (hb : plainBase o = true) (ha : args.all notStar = true) (hn : args.length < 30) (hl : (apos.endLine == pos.line) = true) :
    eval (.Call (.Attribute o m apos) args [] pos) env = (do
      let ov ← eval o env
      standAt apos.atName
      let (f, first) ← holding [ov] (getMethod ov m (do return (← importBound o env).getD true))
      callWith pos f first (backTo pos (starEach args env)) (backToKw pos (keywordEach [] env))) := by
  rw [arm_eval_Call, base_of hb]
  have hf : methodCallForm (args.length + ([] : List Keyword).length) (backTo pos (starEach args env)) (backToKw pos (keywordEach [] env)) = true := by
    unfold methodCallForm
    rw [backTo_all ha]
    show (true && true && decide (args.length + 0 + 0 < 30)) = true
    simpa using hn
  unfold methodCall
  rw [hf]
  have hp : methodCallPos true o env apos pos = pure pos := by
    unfold methodCallPos
    have e : (!true || apos.endLine == pos.line) = true := by rw [hl]; rfl
    rw [if_pos e]
  rw [hp]
  rfl

/-! ### exceptions at the caller's slots: calls without arguments, methods, making -/
section
variable {X : Cx} {CX : CXT} {k : Nat} {f C : Addr} {fd : FuncData} {ps : List Str} {sp : Sp} {E : L2.St → XK} {x m : Str} {p pos apos : Pos} {e o : Expr} {es : List Expr} {ta : TE} {t : TA}
theorem pe_call0S (F : FnOk X.prog X.w X.K X.mg X.base CX k f fd ps sp) (hr : Room k X.A) (hg : Gl X x) (hm : X.mg x = some (.ref f)) (hk : PySem.W.keepIn X.K (.ref f) = true) (hb : Binds X.K fd ps []) (hx : ∀ σ, PassesAt CX X σ (E σ))
    (hdb : (x == ("__debug__" : Str)) = false) : PE X (.Call (.Name x p) [] [] pos) (tCallS sp E tNil) := by
  refine ⟨fun pins s σ H Q I h => ?_⟩
  refine wpAny_Call_Name_kw (ld_glob I hg hm ?_ hdb)
  exact PySem.W.callWith_K0 I.kIn hk (run_fnS (us := []) F hr hb (hx σ) I .nil h)
def tMethS (C : Addr) (m : Str) (sp : Sp) (E : L2.St → XK) (ta : TE) (t : TA) : TE := fun σ H Q => ta σ H fun x H1 => ∃ a dx fs, x = .ref a ∧ H1 a = some (.ins C dx fs) ∧ fs.lookup m = none ∧
  t σ H1 fun vs H2 => sp (x :: vs) H2 Q (E σ)
/-- the methods of several classes: which, is seen when the object is -/
def MthAt (X : Cx) (CX : CXT) (k : Nat) (C : Addr) (m : Str) (sp : Sp) : Prop := Cls X.K C ∧ ∃ f fd ps, Meth X.K C m f ∧ FnOk X.prog X.w X.K X.mg X.base CX k f fd ps sp ∧ Binds X.K fd ps []
theorem pe_methA (he : PE X o ta) (hr : Room k X.A) (hx : ∀ σ, PassesAt CX X σ (E σ)) (ha : PA X (e :: es) t) (hb : plainBase o = true) (hs : (e :: es).all notStar = true) (hn : (e :: es).length < 30) (hl : (apos.endLine == pos.line) = true) :
    PE X (.Call (.Attribute o m apos) (e :: es) [] pos) (fun σ H Q => ta σ H fun x H1 => ∃ a C dx fs sp, x = .ref a ∧ H1 a = some (.ins C dx fs) ∧ MthAt X CX k C m sp ∧ fs.lookup m = none ∧ t σ H1 fun vs H2 => sp (x :: vs) H2 Q (E σ)) := by
  refine ⟨fun pins s σ H Q I h => ?_⟩
  refine PySem.W.methodCall_KW (thn (he.run pins s σ H _ I h) fun u s1 ⟨x, H1, I1, rx, a, C, dx, fs, sp, ex, ea, ⟨c, f, fd, ps, hm, F, hbd⟩, l, q⟩ => ?_) (meth_eq hb hs hn hl)
  subst ex
  obtain rfl : u = Value.ref a := rx
  refine getmeth_ok I1 ea c hm l ?_
  rw [List.all_cons, Bool.and_eq_true] at hs
  refine PySem.W.callWith_K (first := [.ref a]) (h₀ := X.base) I1.ok.mod.kin hm.kp (thn (ha.run pos pins s1 σ H1 _ I1 q) fun us s2 ⟨vs, H2, I2, r, q2⟩ => ⟨I2.kIn, ?_⟩) (starEach_cons hs.1) (backTo_any hs.2)
  exact run_fnS (us := .ref a :: us) (vs := .ref a :: vs) F hr hbd (hx σ) I2 (.cons rfl r) q2
theorem pe_meth0A (he : PE X o ta) (hr : Room k X.A) (hx : ∀ σ, PassesAt CX X σ (E σ)) (hb : plainBase o = true) (hl : (apos.endLine == pos.line) = true) :
    PE X (.Call (.Attribute o m apos) [] [] pos) (fun σ H Q => ta σ H fun x H1 => ∃ a C dx fs sp, x = .ref a ∧ H1 a = some (.ins C dx fs) ∧ MthAt X CX k C m sp ∧ fs.lookup m = none ∧ sp [x] H1 Q (E σ)) := by
  refine ⟨fun pins s σ H Q I h => ?_⟩
  refine PySem.W.methodCall_KW (thn (he.run pins s σ H _ I h) fun u s1 ⟨x, H1, I1, rx, a, C, dx, fs, sp, ex, ea, ⟨c, f, fd, ps, hm, F, hbd⟩, l, q⟩ => ?_) (meth_eq hb rfl (by show 0 < 30; decide) hl)
  subst ex
  obtain rfl : u = Value.ref a := rx
  refine getmeth_ok I1 ea c hm l ?_
  exact PySem.W.callWith_K0 (first := [.ref a]) I1.kIn hm.kp (run_fnS (us := [.ref a]) (vs := [.ref a]) F hr hbd (hx σ) I1 (.cons rfl .nil) q)
theorem run_makeS {pins : List (Addr × Obj)} {σ : L2.St} {H : Hp} {s : Shared} {Q : VK} {us : List Value} {vs : List V} (M : Mk X.K C f) (F : FnOk X.prog X.w X.K X.mg X.base CX k f fd ps sp) (hr : Room (k + 1) X.A) (hb : Binds X.K fd ps [])
    (hx : PassesAt CX X σ (E σ)) (I : L2.Inv X pins σ H s) (r : Vals vs us)
    (h : ∀ x dx, H x = none → H dx = none → dx ≠ x → sp (.ref x :: vs) (upd (upd H dx (.own x)) x (.ins C dx [])) (fun v H2 => v = .non ∧ Q (.ref x) H2) (E σ)) :
    wpAny (model X.prog X.w) X.A (PySem.call (.ref C) us) (EP X pins σ Q) X.xe s := by
  have hq := h (s.heap.objs.size + 1) s.heap.objs.size (I.hok.fresh (Nat.le_succ _)) (I.hok.fresh (Nat.le_refl _)) (Nat.ne_of_lt (Nat.lt_succ_self _))
  have I2 := L2.Inv.made (C := C) I
  have r2 : Vals (V.ref (s.heap.objs.size + 1) :: vs) (Value.ref (s.heap.objs.size + 1) :: us) := .cons rfl r
  have hl : (Value.ref (s.heap.objs.size + 1) :: us).length = ps.length := by
    have e := r2.length
    rw [F.len _ _ _ _ hq] at e
    exact e.symm
  have b := hb _ (Value.ref (s.heap.objs.size + 1) :: us) I2.kIn (by rw [List.append_nil]; exact hl)
  rw [List.append_nil] at b
  refine wpAny_call (make_map (f := f) I.kIn M.makes M.init (beq_iff_eq.mp M.fn) (codeAny_mono (F.run _ X.stack _ _ ⟨Value.ref (s.heap.objs.size + 1) :: us, []⟩ (Value.ref (s.heap.objs.size + 1) :: us) _ _ (E σ) (hr.make C us [])
    (I2.env0.make C us []) b r2 hq) fun r s' hq' => ?_))
  cases r with
  | error e => exact hx pins _ _ e s' I2 hq'
  | ok fl =>
    cases fl with
    | ret u =>
      obtain ⟨v, H', I3, rv, ev, q3⟩ := I2.after hq'
      subst ev
      exact ⟨rv, ⟨V.ref (s.heap.objs.size + 1), H', I3, rfl, q3⟩⟩
    | next => exact False.elim hq'
    | brk => exact False.elim hq'
    | cont => exact False.elim hq'
def tMakeS (C : Addr) (sp : Sp) (E : L2.St → XK) (t : TA) : TE := fun σ H Q => t σ H fun vs H1 => ∀ x dx, H1 x = none → H1 dx = none → dx ≠ x →
  sp (.ref x :: vs) (upd (upd H1 dx (.own x)) x (.ins C dx [])) (fun v H2 => v = .non ∧ Q (.ref x) H2) (E σ)
theorem pe_makeS (M : Mk X.K C f) (F : FnOk X.prog X.w X.K X.mg X.base CX k f fd ps sp) (hr : Room (k + 1) X.A) (hg : Gl X x) (hm : X.mg x = some (.ref C)) (hb : Binds X.K fd ps []) (hx : ∀ σ, PassesAt CX X σ (E σ))
    (ha : PA X (e :: es) t) (hdb : (x == ("__debug__" : Str)) = false) (hs : (e :: es).all notStar = true) : PE X (.Call (.Name x p) (e :: es) [] pos) (tMakeS C sp E t) := by
  refine ⟨fun pins s σ H Q I h => ?_⟩
  rw [List.all_cons, Bool.and_eq_true] at hs
  refine wpAny_Call_Name_kw (ld_glob I hg hm ?_ hdb)
  refine PySem.W.callWith_K (h₀ := X.base) I.ok.mod.kin M.kp (thn (ha.run pos pins s σ H _ I h) fun us s1 ⟨vs, H1, I1, r, q⟩ => ⟨I1.kIn, ?_⟩) (starEach_cons hs.1) (backTo_any hs.2)
  exact run_makeS M F hr hb (hx σ) I1 r q
end

/-! ### the context -/
def lowSp (K : PySem.W.Frag) (sp : SpW) : Sp := fun vs H Q E => ∃ F ws H' Q' E', RelWs K F ws vs ∧ AbH K F H' H ∧ QR K F Q' Q ∧
  (∀ C H1', E' C H1' → ∀ F1 H1, Same F F1 → AbH K F1 H1' H1 → E (.ref C) none H1) ∧ sp ws H' Q' E'
structure Says (g : Gm) (k : Nat) (X : Cx) : Prop where
  fn : ∀ f sp, g.fn f sp → ∃ a fd ps, FnOk X.prog X.w X.K X.mg X.base (L2.CX X.prog X.w) k a fd ps (lowSp X.K sp) ∧ X.mg f = some (.ref a) ∧ PySem.W.keepIn X.K (.ref a) = true ∧ Binds X.K fd ps []
  mth : ∀ C m sp, g.mth C m sp → MthAt X (L2.CX X.prog X.w) k C m (lowSp X.K sp)
  made : ∀ x C sp, g.made x C sp → X.mg x = some (.ref C) ∧ ∃ a fd ps, Mk X.K C a ∧ FnOk X.prog X.w X.K X.mg X.base (L2.CX X.prog X.w) k a fd ps (lowSp X.K sp) ∧ Binds X.K fd ps []
  fld : ∀ C f, g.fld C f → Cls X.K C ∧ NoAttr X.K C f
  int : ∀ x i, g.int x i → ∃ t, X.mg x = some (.int i t)
  exc : ∀ x C, g.exc x C → X.mg x = some (.ref C) ∧ PySem.W.excIn X.K C He.veBase "ValueError.__new__" = true ∧ PySem.W.keepIn X.K (.ref C) = true ∧ PySem.W.subIn X.K (.ref C) (.type "BaseException") = some true ∧ PySem.W.typeIn X.K (.ref C) = some (.type "type")
  exm : ∀ C x b, g.exm C x b → ∃ c, X.mg x = some (.ref c) ∧ PySem.W.exmOne X.K (.ref C) (.ref c) = some b
/-- the names of built-ins are free -/
def Free (X : Cx) : Prop := ∀ x : Str, x = "len" ∨ x = "list" ∨ x = "tuple" ∨ x = "sorted" ∨ x = "max" ∨ x = "min" ∨ x = "int" ∨ x = "bool" ∨ x = "str" ∨ x = "isinstance" ∨ x = "range" → X.mg x = none
structure Ctx (g : Gm) (k : Nat) (X : Cx) (Wx : WX) : Prop where
  says : Says g k X
  free : Free X
  room : Room (k + 1) X.A
  calm : X.calm = true
  nd : X.N.Nodup
  takes : Takes X Wx
theorem Ctx.hu {g : Gm} {k : Nat} {X : Cx} {Wx : WX} (c : Ctx g k X Wx) : X.A.units + 1 < cLine := hu_of c.room
theorem Ctx.hu65 {g : Gm} {k : Nat} {X : Cx} {Wx : WX} (c : Ctx g k X Wx) : X.A.units + 65 < cLine := by have := c.room.un; omega
/-- the scope that a text is read by, and the frame's -/
structure Sc (sc : Scope) (X : Cx) : Prop where
  loc : ∀ x, sc.names.lookup x = some .local → X.env.scope.names.lookup x = some .local
  cell : ∀ x, sc.names.lookup x = some .cell → X.env.scope.names.lookup x = some .cell
  free : ∀ x, sc.names.lookup x = some .free → X.env.scope.names.lookup x = some .cell ∨ X.env.scope.names.lookup x = some .free
  glob : ∀ x, sc.names.lookup x = some .globalImplicit → X.env.scope.names.lookup x = some .globalImplicit
theorem Sc.gl {sc : Scope} {X : Cx} (h : Sc sc X) {x : Str} (e : sc.names.lookup x = some .globalImplicit) : Gl X x := h.glob x e
end WL

/-! ## The rules, lowered: expressions -/
namespace WL
open PySem L2

theorem RelKs.look {K : PySem.W.Frag} {F : Hp} : ∀ {fs : List (Str × W)} {vs : List (Str × V)} (f : Str), RelKs K F fs vs → (∀ w, fs.lookup f = some w → ∃ v, vs.lookup f = some v ∧ RelW K F w v) ∧ (fs.lookup f = none → vs.lookup f = none)
  | [], _, f, h => by
    rw [show _ = [] from h]
    exact ⟨fun w e => (by cases e), fun _ => rfl⟩
  | x :: xs, _, f, ⟨v, r, e, h, t⟩ => by
    rw [e, List.lookup_cons, List.lookup_cons]
    cases q : (f == x.1) with
    | true => exact ⟨fun w z => ⟨v, rfl, by rw [← Option.some.inj z]; exact h⟩, fun z => by cases z⟩
    | false => exact RelKs.look f t
theorem RelKs.putF {K : PySem.W.Frag} {F : Hp} {f : Str} {w : W} {u : V} (ru : RelW K F w u) : ∀ {fs : List (Str × W)} {vs : List (Str × V)}, RelKs K F fs vs → RelKs K F (putFW f w fs) (L2.putF f u vs)
  | [], _, h => by
    rw [show _ = [] from h]
    exact ⟨u, [], rfl, ru, rfl⟩
  | x :: xs, _, ⟨v, r, e, h, t⟩ => by
    rw [e]
    show RelKs K F (if x.1 = f then (x.1, w) :: xs else x :: putFW f w xs) (if x.1 = f then (x.1, u) :: r else (x.1, v) :: L2.putF f u r)
    split
    · exact ⟨u, r, rfl, ru, t⟩
    · exact ⟨v, _, rfl, h, RelKs.putF ru t⟩

section
variable {g : Gm} {k : Nat} {X : Cx} {Wx : WX} {σ : L2.St} {H : Hp} {Q : VK}
abbrev ERc (C : Ctx g k X Wx) : L2.St → XK := WE Wx
theorem Ctx.pass (C : Ctx g k X Wx) (σ : L2.St) : PassesAt (L2.CX X.prog X.w) X σ (WE Wx σ) := passAt C.takes σ

theorem w_var {x : Str} {i : Nat} {pos : Pos} (hN : X.N[i]? = some x) (hv : Vis X.env.scope x) (hd : (x == ("__debug__" : Str)) = false) (hcd : (x == ("__classdict__" : Str)) = false) : PE X (.Name x pos) (lowE X.K Wx (denE g (.var i))) :=
  PE.imp (pe_var hN hv hd hcd) fun σ H Q ⟨F, σ', H', Q', E', rs, ab, qr, er, w, hw, q⟩ =>
    let ⟨u, hu, ru⟩ := rs.get hw
    ⟨u, hu, qr.at ab ru q⟩
theorem w_lit {w : W} {v : V} {e : Expr} (h : PE X e (tC v)) (r : ∀ F, RelW X.K F w v) : PE X e (lowE X.K Wx (denE g (.lit w))) :=
  PE.imp h fun σ H Q ⟨F, σ', H', Q', E', rs, ab, qr, er, q⟩ => qr.at ab (r F) q
theorem w_gint {x : Str} {pos : Pos} (S : Says g k X) (hg : Gl X x) (hd : (x == ("__debug__" : Str)) = false) : PE X (.Name x pos) (lowE X.K Wx (denE g (.gint x))) :=
  PE.imp (t := fun σ H Q => ∃ i, g.int x i ∧ tC (.int i) σ H Q) (PE.ex fun i => PE.all fun h => by
    obtain ⟨t, e⟩ := S.int x i h
    exact pe_glob hg e ⟨t, rfl⟩ hd) fun σ H Q ⟨F, σ', H', Q', E', rs, ab, qr, er, i, h, q⟩ => ⟨i, h, qr.int ab q⟩
theorem w_lst {es : List Expr} {pos : Pos} {a : TAW} (h : PA X es (lowA X.K Wx a)) : PE X (.List es pos) (lowE X.K Wx fun σ H Q E => a σ H (fun ws H1 => ws.length ≤ sizeLine ∧ newL ws H1 Q) E) :=
  PE.imp (pe_lst h) fun σ H Q ⟨F, σ', H', Q', E', rs, ab, qr, er, q⟩ =>
    ⟨F, σ', H', _, E', rs, ab, fun ws H1' hx F1 vs H1 s1 r ab1 => ⟨by rw [← r.length]; exact hx.1, newL_low ab1 (qr.mono s1) r hx.2⟩, er, q⟩
theorem w_tup {es : List Expr} {n : Nat} {pos : Pos} {a : TAW} (h : PA X es (lowA X.K Wx a)) : PE X (.Tuple es n pos) (lowE X.K Wx fun σ H Q E => a σ H (fun ws H1 => ws.length ≤ sizeLine ∧ Q (.tup ws) H1) E) :=
  PE.imp (pe_tup h) fun σ H Q ⟨F, σ', H', Q', E', rs, ab, qr, er, q⟩ =>
    ⟨F, σ', H', _, E', rs, ab, fun ws H1' hx F1 vs H1 s1 r ab1 => ⟨by rw [← r.length]; exact hx.1, newT_low ab1 (qr.mono s1) r hx.2⟩, er, q⟩
theorem w_bin {a b : Expr} {op : Operator} {pos : Pos} {ta tb : TEW} (ha : PE X a (lowE X.K Wx ta)) (hb : PE X b (lowE X.K Wx tb)) : PE X (.BinOp a op b pos) (lowE X.K Wx (tOpW (binW op) ta tb)) :=
  PE.imp (pe_op (binV_ok op) ha hb) fun σ H Q h => low_op (binW_low op) h
theorem w_neg {a : Expr} {pos : Pos} {ta : TEW} (ha : PE X a (lowE X.K Wx ta)) : PE X (.UnaryOp .USub a pos) (lowE X.K Wx (tUnW (fun x H Q => match x with
    | .int i => Q (.int (-i)) H
    | _ => False) ta)) :=
  PE.imp (pe_un un_neg ha) fun σ H Q h => low_un (fun F w v H' H Q' Q r A q h => by
    cases w with
    | int i => exact ⟨i, r, q.int A h⟩
    | _ => exact (show False from h).elim) h
/-- the keys of a dict -/
theorem din_low {F : Hp} {x y : W} {v v' : V} {H' : Hw} {P : Bool → Prop} (rx : RelW X.K F x v) (ry : RelW X.K F y v') (A : AbH X.K F H' H) (h : ∃ a kvs k, y = .ref a ∧ H' a = some (.dct kvs) ∧ keyW x = some k ∧ P (valW kvs k).isSome) :
    ∃ a o, v' = .ref a ∧ DGet H a v o ∧ P o.isSome := by
  obtain ⟨a, kvs, j, rfl, h1, h2, h3⟩ := h
  obtain ⟨o, d, p1, p2⟩ := dget_low rx A h1 h2
  refine ⟨a, o, ry, d, ?_⟩
  cases e : valW kvs j with
  | none => rw [e] at h3; rw [p2 e]; exact h3
  | some w =>
    obtain ⟨u, eu, _⟩ := p1 w e
    rw [e] at h3
    rw [eu]
    exact h3
theorem inW_split {x y : W} {H' : Hw} {P : Bool → Prop} (h : inW x y H' P) : inW0 x y H' P ∨ ∃ a kvs k, y = .ref a ∧ H' a = some (.dct kvs) ∧ keyW x = some k ∧ P (valW kvs k).isSome := by
  rcases h with h | h | h
  · exact .inl (.inl h)
  · exact .inl (.inr h)
  · exact .inr h
/-- a comparison: the low reading of its two ways -/
def rCmpV (K : PySem.W.Frag) (op : CmpOp) (ta tb : TE) : TE := fun σ H Q => ta σ H fun x H1 => tb σ H1 fun y H2 => cmpV K op x y H2 Q ∨
  (op = .In ∧ ∃ a o, y = .ref a ∧ DGet H2 a x o ∧ Q (.bl o.isSome) H2) ∨ (op = .NotIn ∧ ∃ a o, y = .ref a ∧ DGet H2 a x o ∧ Q (.bl (!o.isSome)) H2)
theorem cmp_ok {op : CmpOp} {a b : Expr} {pos : Pos} {ta tb : TE} (hu : X.A.units + 65 < cLine) (ha : PE X a ta) (hb : PE X b tb) (hm : behindInMarks op b = false) : PE X (.Compare a [op] [b] pos) (rCmpV X.K op ta tb) := by
  refine ⟨fun pins s σ H Q I h => wpAny_Compare1 (binT ha hb I h fun v u s2 x y H2 I2 rx ry q => ?_) hm⟩
  rcases q with q | ⟨rfl, d, o, rfl, g, q⟩ | ⟨rfl, d, o, rfl, g, q⟩
  · exact cmpV_ok hu op pins s2 σ H2 x y v u Q I2 rx ry q
  · obtain rfl : u = Value.ref d := ry
    exact d_in (by omega) I2 g rx fun s3 I3 => ⟨.bl o.isSome, H2, I3, rfl, q⟩
  · obtain rfl : u = Value.ref d := ry
    exact d_notIn (by omega) I2 g rx fun s3 I3 => ⟨.bl (!o.isSome), H2, I3, rfl, q⟩
theorem cmp_okT {op : CmpOp} {a b : Expr} {pos : Pos} {ta tb : TE} (hu : X.A.units + 65 < cLine) (ha : PE X a ta) (hb : PE X b tb) (hm : behindInMarks op b = false) : PT X (.Compare a [op] [b] pos) (tTest (rCmpV X.K op ta tb)) := by
  refine ⟨fun pins s σ H Q I h => wpAny_isTrue_Compare1 (thn (ha.run pins s σ H _ I h) fun v s1 ⟨x, H1, I1, r1, q1⟩ => thn (hb.run pins s1 σ H1 _ I1 q1) fun u s2 ⟨y, H2, I2, r2, q2⟩ => ?_) hm⟩
  have fin : ∀ c s3, EP X pins σ (fun x H' => ∃ k, x = .bl k ∧ Q k H') c s3 → wpAny (model X.prog X.w) X.A (truthy c) (TP X pins σ Q) X.xe s3 := fun c s3 ⟨z, H3, I3, r3, k, e, q3⟩ => by
    subst e
    cases r3
    exact wpAny_truthy_bool ⟨H3, I3, q3⟩
  rcases q2 with q | ⟨rfl, d, o, rfl, g, q⟩ | ⟨rfl, d, o, rfl, g, q⟩
  · exact thn (cmpV_ok hu op pins s2 σ H2 x y v u _ I2 r1 r2 q) fin
  · obtain rfl : u = Value.ref d := r2
    exact d_in (by omega) I2 g r1 fun s3 I3 => fin _ _ ⟨.bl o.isSome, H2, I3, rfl, q⟩
  · obtain rfl : u = Value.ref d := r2
    exact d_notIn (by omega) I2 g r1 fun s3 I3 => fin _ _ ⟨.bl (!o.isSome), H2, I3, rfl, q⟩
theorem cmpW_split {op : CmpOp} {F : Hp} {x y : W} {v v' : V} {H' : Hw} {Q' : KW} (rx : RelW X.K F x v) (ry : RelW X.K F y v') (A : AbH X.K F H' H) (q : QR X.K F Q' Q) (h : cmpW op x y H' Q') :
    cmpV X.K op v v' H Q ∨ (op = .In ∧ ∃ a o, v' = .ref a ∧ DGet H a v o ∧ Q (.bl o.isSome) H) ∨ (op = .NotIn ∧ ∃ a o, v' = .ref a ∧ DGet H a v o ∧ Q (.bl (!o.isSome)) H) := by
  cases op with
  | In =>
    rcases inW_split (show inW x y H' fun b => Q' (.bl b) H' from h) with h | h
    · exact .inl (cmpW_low .In F x y v v' H' H Q' Q rx ry A q h)
    · obtain ⟨a, o, e, d, p⟩ := din_low (P := fun b => Q' (.bl b) H') rx ry A h
      exact .inr (.inl ⟨rfl, a, o, e, d, q.bl A p⟩)
  | NotIn =>
    rcases inW_split (show inW x y H' fun b => Q' (.bl (!b)) H' from h) with h | h
    · exact .inl (cmpW_low .NotIn F x y v v' H' H Q' Q rx ry A q h)
    · obtain ⟨a, o, e, d, p⟩ := din_low (P := fun b => Q' (.bl (!b)) H') rx ry A h
      exact .inr (.inr ⟨rfl, a, o, e, d, q.bl A p⟩)
  | Eq => exact .inl (cmpW_low .Eq F x y v v' H' H Q' Q rx ry A q h)
  | NotEq => exact .inl (cmpW_low .NotEq F x y v v' H' H Q' Q rx ry A q h)
  | Lt => exact .inl (cmpW_low .Lt F x y v v' H' H Q' Q rx ry A q h)
  | LtE => exact .inl (cmpW_low .LtE F x y v v' H' H Q' Q rx ry A q h)
  | Gt => exact .inl (cmpW_low .Gt F x y v v' H' H Q' Q rx ry A q h)
  | GtE => exact .inl (cmpW_low .GtE F x y v v' H' H Q' Q rx ry A q h)
  | Is => exact .inl (cmpW_low .Is F x y v v' H' H Q' Q rx ry A q h)
  | IsNot => exact .inl (cmpW_low .IsNot F x y v v' H' H Q' Q rx ry A q h)
theorem low_cmp {op : CmpOp} {ta tb : TEW} (h : lowE X.K Wx (tOpW (cmpW op) ta tb) σ H Q) : rCmpV X.K op (lowE X.K Wx ta) (lowE X.K Wx tb) σ H Q := by
  obtain ⟨F, σ', H', Q', E', rs, ab, qr, er, h⟩ := h
  refine ⟨F, σ', H', _, E', rs, ab, fun x H1' hx F1 v H1 s1 rx ab1 => ?_, er, h⟩
  refine ⟨F1, σ', H1', _, E', rs.mono s1, ab1, fun y H2' hy F2 v' H2 s2 ry ab2 => ?_, er.mono s1, hx⟩
  exact cmpW_split (RelW.mono s2 x rx) ry ab2 (qr.mono (s1.trans s2)) hy
theorem w_cmp (C : Ctx g k X Wx) {op : CmpOp} {a b : Expr} {pos : Pos} {ta tb : TEW} (ha : PE X a (lowE X.K Wx ta)) (hb : PE X b (lowE X.K Wx tb)) (hm : behindInMarks op b = false) : PE X (.Compare a [op] [b] pos) (lowE X.K Wx (tOpW (cmpW op) ta tb)) :=
  PE.imp (cmp_ok C.hu65 ha hb hm) fun σ H Q h => low_cmp h
/-- a value that is True or False, as a test -/
def truT (t : TEW) : TTW := fun σ H Q E => t σ H (fun x H1 => ∃ b, x = .bl b ∧ Q b H1) E
theorem low_tru {t : TEW} {Q : Bool → Hp → Prop} (h : lowT X.K Wx (truT t) σ H Q) : tTest (lowE X.K Wx t) σ H Q := by
  obtain ⟨F, σ', H', Q', E', rs, ab, qr, er, h⟩ := h
  refine ⟨F, σ', H', _, E', rs, ab, fun x H1' hx F1 v H1 s1 rx ab1 => ?_, er, h⟩
  obtain ⟨b, rfl, hq⟩ := hx
  exact ⟨b, rx, qr b H1' hq F1 H1 s1 ab1⟩
theorem w_cmpT (C : Ctx g k X Wx) {op : CmpOp} {a b : Expr} {pos : Pos} {ta tb : TEW} (ha : PE X a (lowE X.K Wx ta)) (hb : PE X b (lowE X.K Wx tb)) (hm : behindInMarks op b = false) : PT X (.Compare a [op] [b] pos) (lowT X.K Wx (truT (tOpW (cmpW op) ta tb))) :=
  PT.imp (cmp_okT C.hu65 ha hb hm) fun σ H Q h => by
    have q := low_tru h
    exact low_cmp q
theorem w_truT {e : Expr} {t : TEW} (h : PE X e (lowE X.K Wx t)) (hp : plainTest e = true) : PT X e (lowT X.K Wx (truT t)) :=
  PT.imp (pt_val h fun whole => test_of hp whole) fun σ H Q h => low_tru h
def chnW (o1 o2 : CmpOp) (ta tb tc : TEW) : TEW := fun σ H Q E => ta σ H (fun x H1 => tb σ H1 (fun y H2 => cmpW0 o1 x y H2 fun z H3 => ∃ k, z = .bl k ∧ (if k = true then tc σ H3 (fun w H4 => cmpW0 o2 y w H4 Q) E else Q (.bl false) H3)) E) E
theorem low_chn {o1 o2 : CmpOp} {ta tb tc : TEW} (h : lowE X.K Wx (chnW o1 o2 ta tb tc) σ H Q) : tChain (cmpV X.K o1) (cmpV X.K o2) (lowE X.K Wx ta) (lowE X.K Wx tb) (lowE X.K Wx tc) σ H Q := by
  obtain ⟨F, σ', H', Q', E', rs, ab, qr, er, h⟩ := h
  refine ⟨F, σ', H', _, E', rs, ab, fun x H1' hx F1 v H1 s1 rx ab1 => ?_, er, h⟩
  refine ⟨F1, σ', H1', _, E', rs.mono s1, ab1, fun y H2' hy F2 v' H2 s2 ry ab2 => ?_, er.mono s1, hx⟩
  refine cmpW_low o1 F2 x y v v' H2' H2 _ _ (RelW.mono s2 x rx) ry ab2 (fun z H3' hz F3 u H3 s3 rz ab3 => ?_) hy
  obtain ⟨c, rfl, hc⟩ := hz
  refine ⟨c, rz, ?_⟩
  cases c with
  | true =>
    rw [if_pos rfl] at hc ⊢
    refine ⟨F3, σ', H3', _, E', rs.mono ((s1.trans s2).trans s3), ab3, fun w H4' hw F4 u' H4 s4 rw' ab4 => ?_, er.mono ((s1.trans s2).trans s3), hc⟩
    exact cmpW_low o2 F4 y w v' u' H4' H4 Q' Q (RelW.mono (s3.trans s4) y ry) rw' ab4 (qr.mono (((s1.trans s2).trans s3).trans s4)) hw
  | false =>
    rw [if_neg Bool.false_ne_true] at hc ⊢
    exact (qr.mono ((s1.trans s2).trans s3)).bl ab3 hc
theorem w_chn (C : Ctx g k X Wx) {o1 o2 : CmpOp} {a b c : Expr} {pos : Pos} {ta tb tc : TEW} (ha : PE X a (lowE X.K Wx ta)) (hb : PE X b (lowE X.K Wx tb)) (hc : PE X c (lowE X.K Wx tc)) (hm : lastMarks [o1, o2] [b, c] = false) :
    PE X (.Compare a [o1, o2] [b, c] pos) (lowE X.K Wx (chnW o1 o2 ta tb tc)) := PE.imp (pe_chain (cmpV_ok C.hu65 o1) (cmpV_ok C.hu65 o2) ha hb hc hm) fun σ H Q h => low_chn h
theorem w_chnT (C : Ctx g k X Wx) {o1 o2 : CmpOp} {a b c : Expr} {pos : Pos} {ta tb tc : TEW} (ha : PE X a (lowE X.K Wx ta)) (hb : PE X b (lowE X.K Wx tb)) (hc : PE X c (lowE X.K Wx tc)) (hm : lastMarks [o1, o2] [b, c] = false) :
    PT X (.Compare a [o1, o2] [b, c] pos) (lowT X.K Wx (truT (chnW o1 o2 ta tb tc))) := PT.imp (pt_chain (cmpV_ok C.hu65 o1) (cmpV_ok C.hu65 o2) ha hb hc hm) fun σ H Q h => low_chn (low_tru h)
/-! values by and, or, not -/
theorem w_and {a b : Expr} {r : List Expr} {pos : Pos} {ta tb : TEW} (ha : PE X a (lowE X.K Wx ta)) (hb : PE X (.BoolOp .And (b :: r) pos) (lowE X.K Wx tb)) :
    PE X (.BoolOp .And (a :: b :: r) pos) (lowE X.K Wx fun σ H Q E => ta σ H (fun x H1 => ∃ c, x = .bl c ∧ if c = true then tb σ H1 Q E else Q (.bl false) H1) E) :=
  PE.imp (pe_and ha hb) fun σ H Q ⟨F, σ', H', Q', E', rs, ab, qr, er, h⟩ => ⟨F, σ', H', _, E', rs, ab, fun x H1' hx F1 v H1 s1 rx ab1 => by
    obtain ⟨c, rfl, hc⟩ := hx
    refine ⟨c, rx, ?_⟩
    cases c with
    | true =>
      rw [if_pos rfl] at hc ⊢
      exact ⟨F1, σ', H1', Q', E', rs.mono s1, ab1, qr.mono s1, er.mono s1, hc⟩
    | false =>
      rw [if_neg Bool.false_ne_true] at hc ⊢
      exact (qr.mono s1).bl ab1 hc, er, h⟩
theorem w_or {a b : Expr} {r : List Expr} {pos : Pos} {ta tb : TEW} (ha : PE X a (lowE X.K Wx ta)) (hb : PE X (.BoolOp .Or (b :: r) pos) (lowE X.K Wx tb)) :
    PE X (.BoolOp .Or (a :: b :: r) pos) (lowE X.K Wx fun σ H Q E => ta σ H (fun x H1 => ∃ c, x = .bl c ∧ if c = true then Q (.bl true) H1 else tb σ H1 Q E) E) :=
  PE.imp (pe_or ha hb) fun σ H Q ⟨F, σ', H', Q', E', rs, ab, qr, er, h⟩ => ⟨F, σ', H', _, E', rs, ab, fun x H1' hx F1 v H1 s1 rx ab1 => by
    obtain ⟨c, rfl, hc⟩ := hx
    refine ⟨c, rx, ?_⟩
    cases c with
    | true =>
      rw [if_pos rfl] at hc ⊢
      exact (qr.mono s1).bl ab1 hc
    | false =>
      rw [if_neg Bool.false_ne_true] at hc ⊢
      exact ⟨F1, σ', H1', Q', E', rs.mono s1, ab1, qr.mono s1, er.mono s1, hc⟩, er, h⟩
theorem w_not {a : Expr} {pos : Pos} {ta : TEW} (ha : PE X a (lowE X.K Wx ta)) : PE X (.UnaryOp .Not a pos) (lowE X.K Wx fun σ H Q E => ta σ H (fun x H1 => ∃ c, x = .bl c ∧ Q (.bl (!c)) H1) E) :=
  PE.imp (pe_not ha) fun σ H Q ⟨F, σ', H', Q', E', rs, ab, qr, er, h⟩ => ⟨F, σ', H', _, E', rs, ab, fun x H1' hx F1 v H1 s1 rx ab1 => by
    obtain ⟨c, rfl, hc⟩ := hx
    exact ⟨c, rx, (qr.mono s1).bl ab1 hc⟩, er, h⟩
theorem w_ife {t a b : Expr} {pos : Pos} {tt : TTW} {ta tb : TEW} (ht : PT X t (lowT X.K Wx tt)) (ha : PE X a (lowE X.K Wx ta)) (hb : PE X b (lowE X.K Wx tb)) :
    PE X (.IfExp t a b pos) (lowE X.K Wx fun σ H Q E => tt σ H (fun c H1 => if c = true then ta σ H1 Q E else tb σ H1 Q E) E) :=
  PE.imp (pe_ifExp ht ha hb) fun σ H Q ⟨F, σ', H', Q', E', rs, ab, qr, er, h⟩ => ⟨F, σ', H', _, E', rs, ab, fun c H1' hc F1 H1 s1 ab1 => by
    cases c with
    | true =>
      rw [if_pos rfl] at hc ⊢
      exact ⟨F1, σ', H1', Q', E', rs.mono s1, ab1, qr.mono s1, er.mono s1, hc⟩
    | false =>
      rw [if_neg Bool.false_ne_true] at hc ⊢
      exact ⟨F1, σ', H1', Q', E', rs.mono s1, ab1, qr.mono s1, er.mono s1, hc⟩, er, h⟩
/-! tests -/
theorem w_andT {a b : Expr} {r : List Expr} {pos : Pos} {ta tb : TTW} (ha : PT X a (lowT X.K Wx ta)) (hb : PW X (.BoolOp .And (b :: r) pos) (lowT X.K Wx tb)) :
    PW X (.BoolOp .And (a :: b :: r) pos) (lowT X.K Wx fun σ H Q E => ta σ H (fun c H1 => if c = true then tb σ H1 Q E else Q false H1) E) :=
  PW.imp (pw_and ha hb) fun σ H Q ⟨F, σ', H', Q', E', rs, ab, qr, er, h⟩ => ⟨F, σ', H', _, E', rs, ab, fun c H1' hc F1 H1 s1 ab1 => by
    cases c with
    | true =>
      rw [if_pos rfl] at hc ⊢
      exact ⟨F1, σ', H1', Q', E', rs.mono s1, ab1, qr.mono s1, er.mono s1, hc⟩
    | false =>
      rw [if_neg Bool.false_ne_true] at hc ⊢
      exact qr false H1' hc F1 H1 s1 ab1, er, h⟩
theorem w_orT {a b : Expr} {r : List Expr} {pos : Pos} {ta tb : TTW} (ha : PT X a (lowT X.K Wx ta)) (hb : PW X (.BoolOp .Or (b :: r) pos) (lowT X.K Wx tb)) :
    PW X (.BoolOp .Or (a :: b :: r) pos) (lowT X.K Wx fun σ H Q E => ta σ H (fun c H1 => if c = true then Q true H1 else tb σ H1 Q E) E) :=
  PW.imp (pw_or ha hb) fun σ H Q ⟨F, σ', H', Q', E', rs, ab, qr, er, h⟩ => ⟨F, σ', H', _, E', rs, ab, fun c H1' hc F1 H1 s1 ab1 => by
    cases c with
    | true =>
      rw [if_pos rfl] at hc ⊢
      exact qr true H1' hc F1 H1 s1 ab1
    | false =>
      rw [if_neg Bool.false_ne_true] at hc ⊢
      exact ⟨F1, σ', H1', Q', E', rs.mono s1, ab1, qr.mono s1, er.mono s1, hc⟩, er, h⟩
theorem w_notT {a : Expr} {pos : Pos} {ta : TTW} (ha : PT X a (lowT X.K Wx ta)) : PT X (.UnaryOp .Not a pos) (lowT X.K Wx fun σ H Q E => ta σ H (fun c H1 => Q (!c) H1) E) :=
  PT.imp (pt_not ha) fun σ H Q ⟨F, σ', H', Q', E', rs, ab, qr, er, h⟩ => ⟨F, σ', H', _, E', rs, ab, fun c H1' hc F1 H1 s1 ab1 => qr (!c) H1' hc F1 H1 s1 ab1, er, h⟩
/-! fields, items, slices -/
theorem w_fld {e : Expr} {f : Str} {pos : Pos} {te : TEW} (S : Says g k X) (he : PE X e (lowE X.K Wx te)) (hb : plainBase e = true) : PE X (.Attribute e f pos) (lowE X.K Wx (tUnW (fldW g f) te)) :=
  PE.imp (pe_fld he (base_of hb)) fun σ H Q h => low_un (rV := fun x H1 Q => ∃ a C dx fs v, x = .ref a ∧ H1 a = some (.ins C dx fs) ∧ Cls X.K C ∧ NoAttr X.K C f ∧ fs.lookup f = some v ∧ Q v H1) (fun F w v H' H Q' Q r A q h => by
    cases w with
    | ref a =>
      obtain ⟨C, fs, w, h1, h2, h3, h4⟩ := h
      obtain ⟨dx, vs, e, rk⟩ := A.inst h1
      obtain ⟨u, eu, ru⟩ := (rk.look f).1 w h3
      obtain ⟨c1, c2⟩ := S.fld C f h2
      exact ⟨a, C, dx, vs, u, r, e, c1, c2, eu, q.at A ru h4⟩
    | _ => exact (show False from h).elim) h
theorem ix_dict (hu : X.A.units + 1 < cLine) : IxR X (fun x y H Q => ∃ a v, x = .ref a ∧ DGet H a y (some v) ∧ Q v H) := by
  intro value slice pins s σ H x y v u Q I rx ry q hs
  obtain ⟨a, w, ex, dg, q⟩ := q
  subst ex
  obtain rfl : v = Value.ref a := rx
  exact PyProof.Rows.tail_any (dict_typeIs I dg) PySem.F.slot_dict_getitem.lookup (d_getItem hu I dg ry fun w' s3 I3 rw' => ⟨w, H, I3, rw', q⟩) hs
theorem w_ix (C : Ctx g k X Wx) {e i : Expr} {pos : Pos} {te ti : TEW} (he : PE X e (lowE X.K Wx te)) (hi : PE X i (lowE X.K Wx ti)) (hs : notSlice i = true) :
    PE X (.Subscript e i pos) (lowE X.K Wx (tOpW (fun x y H Q => ixW x y H Q ∨ dgetW x y H Q) te ti)) :=
  PE.imp (pe_ix (ix_seq.or (ix_dict C.hu)) he hi (ix_of hs)) fun σ H Q h => low_op (fun F x y v v' H' H Q' Q rx ry A q hy => by
    rcases hy with hy | ⟨a, kvs, j, w, rfl, d1, d2, d3, d4⟩
    · exact .inl (ixW_low F x y v v' H' H Q' Q rx ry A q hy)
    · obtain ⟨o, dg, p1, _⟩ := dget_low ry A d1 d2
      obtain ⟨u, eu, ru⟩ := p1 w d3
      rw [eu] at dg
      exact .inr ⟨a, u, rx, dg, q.at A ru d4⟩) h
def lowO (K : PySem.W.Frag) (Wx : WX) (t : TOW) : L2.TO := fun σ H Q => ∃ F σ' H' Q' E', RelS K F σ' σ ∧ AbH K F H' H ∧ (∀ o H1', Q' o H1' → ∀ F1 H1, Same F F1 → AbH K F1 H1' H1 → Q o H1) ∧ ER K F Wx σ E' ∧ t σ' H' Q' E'
theorem PO.imp {o : Option Expr} {t t' : L2.TO} (h : PO X o t) (i : ∀ σ H Q, t' σ H Q → t σ H Q) : PO X o t' := ⟨fun pins s σ H Q I q => h.run pins s σ H Q I (i σ H Q q)⟩
theorem w_no : PO X none (lowO X.K Wx fun _ H Q _ => Q none H) := PO.imp po_none fun σ H Q ⟨F, σ', H', Q', E', rs, ab, qr, er, h⟩ => qr none H' h F H (Same.refl _) ab
theorem w_so {e : Expr} {te : TEW} (he : PE X e (lowE X.K Wx te)) : PO X (some e) (lowO X.K Wx fun σ H Q E => te σ H (fun x H1 => ∃ i, x = .int i ∧ Q (some i) H1) E) :=
  PO.imp (po_some he) fun σ H Q ⟨F, σ', H', Q', E', rs, ab, qr, er, h⟩ => ⟨F, σ', H', _, E', rs, ab, fun x H1' hx F1 v H1 s1 rx ab1 => by
    obtain ⟨i, rfl, hi⟩ := hx
    exact ⟨i, rx, qr _ H1' hi F1 H1 s1 ab1⟩, er, h⟩
theorem w_slc {e : Expr} {lo hi : Option Expr} {p2 pos : Pos} {te : TEW} {tl th : TOW} (he : PE X e (lowE X.K Wx te)) (hl : PO X lo (lowO X.K Wx tl)) (hh : PO X hi (lowO X.K Wx th)) :
    PE X (.Subscript e (.Slice lo hi none p2) pos) (lowE X.K Wx (slcW te tl th)) :=
  PE.imp (pe_slice (sl_tup.or sl_list) he hl hh) fun σ H Q ⟨F, σ', H', Q', E', rs, ab, qr, er, h⟩ => ⟨F, σ', H', _, E', rs, ab, fun x H1' hx F1 v H1 s1 rx ab1 =>
    ⟨F1, σ', H1', _, E', rs.mono s1, ab1, fun l H2' hl F2 H2 s2 ab2 => ⟨F2, σ', H2', _, E', rs.mono (s1.trans s2), ab2, fun u H3' hu F3 H3 s3 ab3 =>
      slW_low (RelW.mono (s2.trans s3) x rx) ab3 (qr.mono ((s1.trans s2).trans s3)) hu, er.mono (s1.trans s2), hl⟩, er.mono s1, hx⟩, er, h⟩
theorem w_rev {e : Expr} {n : Nat} {p1 p2 p3 pos : Pos} {te : TEW} (he : PE X e (lowE X.K Wx te)) : PE X (.Subscript e (.Slice none none (some (.UnaryOp .USub (.Constant (.int 1) n p1) p2)) p3) pos) (lowE X.K Wx (tUnW revW te)) :=
  PE.imp (pe_revL he) fun σ H Q h => low_un (rV := fun x H1 Q => ∃ a xs, x = .ref a ∧ SqL X.K H1 a xs ∧ ∀ p, H1 p = none → Q (.ref p) (upd H1 p (.lst xs.reverse))) (fun F w v H' H Q' Q r A q h => by
    obtain ⟨xs, h1, h2⟩ := h
    obtain ⟨a, vs, e, q1, t⟩ := seqL_low A r h1
    exact ⟨a, vs, e, q1, newL_low A q t.reverse h2⟩) h
end
end WL

/-! ## The rules, lowered: calls, methods, comprehensions -/
namespace WL
open PySem L2
section
variable {g : Gm} {k : Nat} {X : Cx} {Wx : WX} {σ : L2.St} {H : Hp} {Q : VK}

theorem boot_of {f : Str} {u : Value} (h : builtinIs f = some u) : bootBuiltins f = some u ∧ f ≠ "__name__" ∧ (f = "len" ∨ f = "list" ∨ f = "tuple" ∨ f = "sorted" ∨ f = "max" ∨ f = "min" ∨ f = "int") := by
  unfold builtinIs at h
  by_cases h1 : f = "len"
  · rw [if_pos h1] at h; cases h; subst h1; exact ⟨PySem.boot_len, by decide +kernel, .inl rfl⟩
  rw [if_neg h1] at h
  by_cases h2 : f = "list"
  · rw [if_pos h2] at h; cases h; subst h2; exact ⟨PyProof.Rows.boot_list, by decide +kernel, .inr (.inl rfl)⟩
  rw [if_neg h2] at h
  by_cases h3 : f = "tuple"
  · rw [if_pos h3] at h; cases h; subst h3; exact ⟨PyProof.Rows.boot_tuple, by decide +kernel, .inr (.inr (.inl rfl))⟩
  rw [if_neg h3] at h
  by_cases h4 : f = "sorted"
  · rw [if_pos h4] at h; cases h; subst h4; exact ⟨PyProof.Rows.boot_sorted, by decide +kernel, .inr (.inr (.inr (.inl rfl)))⟩
  rw [if_neg h4] at h
  by_cases h5 : f = "max"
  · rw [if_pos h5] at h; cases h; subst h5; exact ⟨PyProof.Rows.boot_max, by decide +kernel, .inr (.inr (.inr (.inr (.inl rfl))))⟩
  rw [if_neg h5] at h
  by_cases h6 : f = "min"
  · rw [if_pos h6] at h; cases h; subst h6; exact ⟨PyProof.Rows.boot_min, by decide +kernel, .inr (.inr (.inr (.inr (.inr (.inl rfl)))))⟩
  rw [if_neg h6] at h
  by_cases h7 : f = "int"
  · rw [if_pos h7] at h; cases h; subst h7; exact ⟨PyProof.Rows.boot_int, by decide +kernel, .inr (.inr (.inr (.inr (.inr (.inr rfl)))))⟩
  rw [if_neg h7] at h
  cases h
theorem Free.bi {f : Str} {u : Value} (F : Free X) (h : builtinIs f = some u) : X.mg f = none := by
  refine F f ?_
  rcases (boot_of h).2.2 with z | z | z | z | z | z | z
  · exact .inl z
  · exact .inr (.inl z)
  · exact .inr (.inr (.inl z))
  · exact .inr (.inr (.inr (.inl z)))
  · exact .inr (.inr (.inr (.inr (.inl z))))
  · exact .inr (.inr (.inr (.inr (.inr (.inl z)))))
  · exact .inr (.inr (.inr (.inr (.inr (.inr (.inl z))))))
theorem builtin_shape {f : Str} {u : Value} (h : builtinIs f = some u) : (∃ id, u = .builtin id) ∨ ∃ T, u = .type T := by
  unfold builtinIs at h
  split at h <;> try (cases h; first | exact .inl ⟨_, rfl⟩ | exact .inr ⟨_, rfl⟩)
  split at h <;> try (cases h; first | exact .inl ⟨_, rfl⟩ | exact .inr ⟨_, rfl⟩)
  split at h <;> try (cases h; first | exact .inl ⟨_, rfl⟩ | exact .inr ⟨_, rfl⟩)
  split at h <;> try (cases h; first | exact .inl ⟨_, rfl⟩ | exact .inr ⟨_, rfl⟩)
  split at h <;> try (cases h; first | exact .inl ⟨_, rfl⟩ | exact .inr ⟨_, rfl⟩)
  split at h <;> try (cases h; first | exact .inl ⟨_, rfl⟩ | exact .inr ⟨_, rfl⟩)
  split at h <;> first | (cases h; exact .inr ⟨_, rfl⟩) | cases h
/-- f(e, ..), f a built-in -/
theorem w_bcl (C : Ctx g k X Wx) {f : Str} {u : Value} {p pos : Pos} {e : Expr} {es : List Expr} {a : TAW} (hu : builtinIs f = some u) (hg : Gl X f) (hdb : (f == ("__debug__" : Str)) = false) (hs : (e :: es).all notStar = true) (ha : PA X (e :: es) (lowA X.K Wx a)) :
    PE X (.Call (.Name f p) (e :: es) [] pos) (lowE X.K Wx fun σ H Q E => a σ H (fun ws H1 => callW f ws H1 Q) E) := by
  obtain ⟨rV, hr, hl⟩ := callW_ok C.calm hu
  obtain ⟨hb, hn, _⟩ := boot_of hu
  have hm := C.free.bi hu
  rw [List.all_cons, Bool.and_eq_true] at hs
  rcases builtin_shape hu with ⟨id, rfl⟩ | ⟨T, rfl⟩
  · exact PE.imp (pe_callB hr hg hm hb ha hn hdb (starEach_cons hs.1) (backTo_any hs.2)) fun σ H Q h => low_args hl h
  · exact PE.imp (pe_callTy hr hg hm hb ha hn hdb (starEach_cons hs.1) (backTo_any hs.2)) fun σ H Q h => low_args hl h
/-- the built-in classes that isinstance asks of -/
def tyOf (x : Str) : Option String := if x = "int" then some "int" else if x = "bool" then some "bool" else if x = "list" then some "list" else if x = "tuple" then some "tuple" else if x = "str" then some "str" else none
theorem tyOf_ok (F : Free X) {x : Str} {T : String} (h : tyOf x = some T) : bootBuiltins x = some (.type T) ∧ x ≠ "__name__" ∧ X.mg x = none := by
  unfold tyOf at h
  by_cases h1 : x = "int"
  · rw [if_pos h1] at h; cases h; subst h1; exact ⟨PyProof.Rows.boot_int, by decide +kernel, F _ (by simp)⟩
  rw [if_neg h1] at h
  by_cases h2 : x = "bool"
  · rw [if_pos h2] at h; cases h; subst h2; exact ⟨PyProof.Rows.boot_bool, by decide +kernel, F _ (by simp)⟩
  rw [if_neg h2] at h
  by_cases h3 : x = "list"
  · rw [if_pos h3] at h; cases h; subst h3; exact ⟨PyProof.Rows.boot_list, by decide +kernel, F _ (by simp)⟩
  rw [if_neg h3] at h
  by_cases h4 : x = "tuple"
  · rw [if_pos h4] at h; cases h; subst h4; exact ⟨PyProof.Rows.boot_tuple, by decide +kernel, F _ (by simp)⟩
  rw [if_neg h4] at h
  by_cases h5 : x = "str"
  · rw [if_pos h5] at h; cases h; subst h5; exact ⟨PyProof.Rows.boot_str, by decide +kernel, F _ (by simp)⟩
  rw [if_neg h5] at h
  cases h
theorem w_isi (C : Ctx g k X Wx) {x : Str} {T : String} {p p2 pos : Pos} {e : Expr} {te : TEW} (hT : tyOf x = some T) (hg : Gl X "isinstance") (hgx : Gl X x) (hdx : (x == ("__debug__" : Str)) = false) (hs : notStar e = true) (he : PE X e (lowE X.K Wx te)) :
    PE X (.Call (.Name "isinstance" p) [e, .Name x p2] [] pos) (lowE X.K Wx (tUnW (fun x H Q => ∃ t b, tyW H x = some t ∧ kitB t T = some b ∧ Q (.bl b) H) te)) := by
  obtain ⟨hb, hn, hm⟩ := tyOf_ok C.free hT
  have h2 : PE X (.Name x p2) (tC (.ty T)) := pe_bltn hgx hm hb rfl hn hdx
  refine PE.imp (pe_callB call_isi hg (C.free _ (by simp)) PyProof.Rows.boot_isinstance (pa_cons he (pa_cons h2 pa_nil) (starEach_cons hs)) (by decide) (by decide) (starEach_cons hs) rfl) fun σ H Q h => ?_
  obtain ⟨F, σ', H', Q', E', rs, ab, qr, er, h⟩ := h
  refine ⟨F, σ', H', _, E', rs, ab, fun w H1' hw F1 v H1 s1 rx ab1 => ?_, er, h⟩
  obtain ⟨t, b, h3, h4, h5⟩ := hw
  exact ⟨v, .ty T, .type t, .type T, b, rfl, .ty T, tyW_low rx ab1 h3, kit_ty h4, (qr.mono s1).bl ab1 h5⟩
/-- an own def's promise, behind its arguments -/
theorem low_sp {F : Hp} {sp : SpW} {ws : List W} {vs : List V} {H' : Hw} {Q' : KW} {E' : EW} (r : RelWs X.K F ws vs) (A : AbH X.K F H' H) (q : QR X.K F Q' Q) (e : ER X.K F Wx σ E') (h : sp ws H' Q' E') : lowSp X.K sp vs H Q (WE Wx σ) :=
  ⟨F, ws, H', Q', E', r, A, q, e, h⟩
theorem w_call (C : Ctx g k X Wx) {f : Str} {p pos : Pos} {e : Expr} {es : List Expr} {a : TAW} (hg : Gl X f) (hdb : (f == ("__debug__" : Str)) = false) (hs : (e :: es).all notStar = true) (ha : PA X (e :: es) (lowA X.K Wx a)) :
    PE X (.Call (.Name f p) (e :: es) [] pos) (lowE X.K Wx fun σ H Q E => ∃ sp, g.fn f sp ∧ a σ H (fun ws H1 => sp ws H1 Q E) E) := by
  rw [List.all_cons, Bool.and_eq_true] at hs
  refine PE.imp (t := fun σ H Q => ∃ sp, g.fn f sp ∧ tCallS (lowSp X.K sp) (WE Wx) (lowA X.K Wx a) σ H Q) (PE.ex fun sp => PE.all fun hf => ?_) fun σ H Q h => ?_
  · obtain ⟨d, fd, ps, F, hm, hk, hb⟩ := C.says.fn f sp hf
    exact pe_callS F (C.room.mono (Nat.le_succ _)) hg hm hk hb C.pass ha hdb (starEach_cons hs.1) (backTo_any hs.2)
  · obtain ⟨F, σ', H', Q', E', rs, ab, qr, er, sp, hf, h⟩ := h
    exact ⟨sp, hf, F, σ', H', _, E', rs, ab, fun ws H1' hx F1 vs H1 s1 r ab1 => low_sp r ab1 (qr.mono s1) (er.mono s1) hx, er, h⟩
theorem w_call0 (C : Ctx g k X Wx) {f : Str} {p pos : Pos} (hg : Gl X f) (hdb : (f == ("__debug__" : Str)) = false) :
    PE X (.Call (.Name f p) [] [] pos) (lowE X.K Wx fun σ H Q E => ∃ sp, g.fn f sp ∧ tNilW σ H (fun ws H1 => sp ws H1 Q E) E) := by
  refine PE.imp (t := fun σ H Q => ∃ sp, g.fn f sp ∧ tCallS (lowSp X.K sp) (WE Wx) tNil σ H Q) (PE.ex fun sp => PE.all fun hf => ?_) fun σ H Q h => ?_
  · obtain ⟨d, fd, ps, F, hm, hk, hb⟩ := C.says.fn f sp hf
    exact pe_call0S F (C.room.mono (Nat.le_succ _)) hg hm hk hb C.pass hdb
  · obtain ⟨F, σ', H', Q', E', rs, ab, qr, er, sp, hf, h⟩ := h
    exact ⟨sp, hf, low_sp (ws := []) rfl ab qr er h⟩
theorem w_mk (C : Ctx g k X Wx) {c : Str} {p pos : Pos} {e : Expr} {es : List Expr} {a : TAW} (hg : Gl X c) (hdb : (c == ("__debug__" : Str)) = false) (hs : (e :: es).all notStar = true) (ha : PA X (e :: es) (lowA X.K Wx a)) :
    PE X (.Call (.Name c p) (e :: es) [] pos) (lowE X.K Wx fun σ H Q E => ∃ C sp, g.made c C sp ∧ a σ H (fun ws H1 => ∀ x, H1 x = none → sp (.ref x :: ws) (updW H1 x (.ins C [])) (fun v H2 => v = .non ∧ Q (.ref x) H2) E) E) := by
  refine PE.imp (t := fun σ H Q => ∃ D, ∃ sp, g.made c D sp ∧ tMakeS D (lowSp X.K sp) (WE Wx) (lowA X.K Wx a) σ H Q) (PE.ex fun D => PE.ex fun sp => PE.all fun hf => ?_) fun σ H Q h => ?_
  · obtain ⟨hm, f, fd, ps, M, F, hb⟩ := C.says.made c D sp hf
    exact pe_makeS M F C.room hg hm hb C.pass ha hdb hs
  · obtain ⟨F, σ', H', Q', E', rs, ab, qr, er, D, sp, hf, h⟩ := h
    refine ⟨D, sp, hf, F, σ', H', _, E', rs, ab, fun ws H1' hx F1 vs H1 s1 r ab1 x dx hnx hnd hne => ?_, er, h⟩
    have ab2 : AbH X.K F1 H1' (upd H1 dx (.own x)) := ab1.skip hnd
    have hnx2 : (upd H1 dx (.own x)) x = none := by rw [upd_ne (Ne.symm hne)]; exact hnx
    have ab3 := ab2.new (o := .ins D dx []) (w := .ins D []) hnx2 ⟨dx, [], rfl, rfl⟩
    exact low_sp (ws := .ref x :: ws) (vs := .ref x :: vs) (.cons (show RelW X.K F1 (.ref x) (.ref x) from rfl) r) ab3 (fun w H2' hw F2 v H2 s2 rv ab4 => ⟨by
      rw [hw.1] at rv
      exact rv, (qr.mono (s1.trans s2)).ref ab4 hw.2⟩) (er.mono s1) (hx x (ab1.noH hnx))
/-- o.m(..), o an instance of ours -/
def mthW (g : Gm) (m : Str) (te : TEW) (a : TAW) : TEW := fun σ H Q E => te σ H (fun x H1 => ∃ b C fs sp, x = .ref b ∧ H1 b = some (.ins C fs) ∧ g.mth C m sp ∧ fs.lookup m = none ∧ a σ H1 (fun ws H2 => sp (x :: ws) H2 Q E) E) E
theorem w_mth (C : Ctx g k X Wx) {o : Expr} {m : Str} {apos pos : Pos} {e : Expr} {es : List Expr} {te : TEW} {a : TAW} (ho : PE X o (lowE X.K Wx te)) (ha : PA X (e :: es) (lowA X.K Wx a)) (hb : plainBase o = true) (hs : (e :: es).all notStar = true)
    (hn : (e :: es).length < 30) (hl : (apos.endLine == pos.line) = true) : PE X (.Call (.Attribute o m apos) (e :: es) [] pos) (lowE X.K Wx (mthW g m te a)) :=
  PE.imp (pe_methA (CX := L2.CX X.prog X.w) ho (C.room.mono (Nat.le_succ _)) C.pass ha hb hs hn hl) fun σ H Q ⟨F, σ', H', Q', E', rs, ab, qr, er, h⟩ => ⟨F, σ', H', _, E', rs, ab, fun x H1' hx F1 v H1 s1 rx ab1 => by
    obtain ⟨b, D, fs, sp, rfl, h1, h2, h3, h4⟩ := hx
    obtain ⟨dx, vs, e1, rk⟩ := ab1.inst h1
    exact ⟨b, D, dx, vs, lowSp X.K sp, rx, e1, C.says.mth D m sp h2, (rk.look m).2 h3, F1, σ', H1', _, E', rs.mono s1, ab1, fun ws H2' hw F2 us H2 s2 r ab2 =>
      low_sp (ws := .ref b :: ws) (vs := v :: us) (.cons (RelW.mono s2 (.ref b) rx) r) ab2 (qr.mono (s1.trans s2)) (er.mono (s1.trans s2)) hw, er.mono s1, h4⟩, er, h⟩
theorem w_mth0 (C : Ctx g k X Wx) {o : Expr} {m : Str} {apos pos : Pos} {te : TEW} (ho : PE X o (lowE X.K Wx te)) (hb : plainBase o = true) (hl : (apos.endLine == pos.line) = true) :
    PE X (.Call (.Attribute o m apos) [] [] pos) (lowE X.K Wx (mthW g m te tNilW)) :=
  PE.imp (pe_meth0A (CX := L2.CX X.prog X.w) ho (C.room.mono (Nat.le_succ _)) C.pass hb hl) fun σ H Q ⟨F, σ', H', Q', E', rs, ab, qr, er, h⟩ => ⟨F, σ', H', _, E', rs, ab, fun x H1' hx F1 v H1 s1 rx ab1 => by
    obtain ⟨b, D, fs, sp, rfl, h1, h2, h3, h4⟩ := hx
    obtain ⟨dx, vs, e1, rk⟩ := ab1.inst h1
    exact ⟨b, D, dx, vs, lowSp X.K sp, rx, e1, C.says.mth D m sp h2, (rk.look m).2 h3, low_sp (ws := [.ref b]) (vs := [v]) (.cons (show RelW X.K F1 (.ref b) v from rx) rfl) ab1 (qr.mono s1) (er.mono s1) h4⟩, er, h⟩
/-! methods of lists -/
theorem isLst_low {F : Hp} {x : W} {v : V} {H' : Hw} (A : AbH X.K F H' H) (r : RelW X.K F x v) (h : isLst x H') : tyV X.K "list" v H := by
  obtain ⟨xs, h⟩ := h
  obtain ⟨a, vs, e, q, _⟩ := seqL_low A r h
  rw [e]
  exact .inl ⟨rfl, vs, q⟩
def bmW (r : R2W) (to te : TEW) : TEW := fun σ H Q E => to σ H (fun x H1 => isLst x H1 ∧ te σ H1 (fun y H2 => r x y H2 Q) E) E
theorem low_bm {rW : R2W} {rV : V → List V → Hp → VK → Prop} {to te : TEW} (o : ∀ F w w' v v' H' H Q' Q, RelW X.K F w v → RelW X.K F w' v' → AbH X.K F H' H → QR X.K F Q' Q → rW w w' H' Q' → rV v [v'] H Q)
    (h : lowE X.K Wx (bmW rW to te) σ H Q) : tBM X.K "list" rV (lowE X.K Wx to) (tCons (lowE X.K Wx te) tNil) σ H Q := by
  obtain ⟨F, σ', H', Q', E', rs, ab, qr, er, h⟩ := h
  refine ⟨F, σ', H', _, E', rs, ab, fun x H1' hx F1 v H1 s1 rx ab1 => ⟨isLst_low ab1 rx hx.1, ?_⟩, er, h⟩
  exact ⟨F1, σ', H1', _, E', rs.mono s1, ab1, fun y H2' hy F2 v' H2 s2 ry ab2 => o F2 x y v v' H2' H2 Q' Q (RelW.mono s2 x rx) ry ab2 (qr.mono (s1.trans s2)) hy, er.mono s1, hx.2⟩
theorem few_of {e : Expr} {pos : Pos} {env : Env} (hs : notStar e = true) : ((backTo pos (starEach [e] env)).all (fun x => !x.1) && (backToKw pos (keywordEach [] env)).all (fun x => x.1.isSome)
      && decide (([e] : List Expr).length + ([] : List Keyword).length + (if ([] : List Keyword).isEmpty then 0 else 1) < 30)) = true := by
  rw [backTo_all (by simp [hs])]
  rfl
theorem w_app {o e : Expr} {apos pos : Pos} {to te : TEW} (ho : PE X o (lowE X.K Wx to)) (he : PE X e (lowE X.K Wx te)) (hb : plainBase o = true) (hs : notStar e = true) (hl : (apos.endLine == pos.line) = true) :
    PE X (.Call (.Attribute o "append" apos) [e] [] pos) (lowE X.K Wx (bmW appW to te)) :=
  PE.imp (pe_bm PySem.F.plainAttrs_list PySem.F.slot_list_append PySem.F.type_list_append mt_append ho (pa_cons he pa_nil (starEach_cons hs)) (base_of hb) (few_of hs) hl (starEach_cons hs) rfl) fun σ H Q h =>
    low_bm (fun F x y v v' H' H Q' Q rx ry A q h => by
      cases x with
      | ref a =>
        obtain ⟨xs, h1, h2, h3⟩ := h
        obtain ⟨vs, e1, t⟩ := A.list h1
        exact ⟨a, vs, v', rx, rfl, e1, by rw [← t.length]; exact h2, (q .non _ h3 F _ _ (Same.refl _) rfl (A.write h1 ⟨_, rfl, t.append (.cons ry .nil)⟩))⟩
      | _ => exact (show False from h).elim) h
theorem w_ext {o e : Expr} {apos pos : Pos} {to te : TEW} (ho : PE X o (lowE X.K Wx to)) (he : PE X e (lowE X.K Wx te)) (hb : plainBase o = true) (hs : notStar e = true) (hl : (apos.endLine == pos.line) = true) :
    PE X (.Call (.Attribute o "extend" apos) [e] [] pos) (lowE X.K Wx (bmW extW to te)) :=
  PE.imp (pe_bm PySem.F.plainAttrs_list PySem.F.slot_list_extend PySem.F.type_list_extend mt_extend ho (pa_cons he pa_nil (starEach_cons hs)) (base_of hb) (few_of hs) hl (starEach_cons hs) rfl) fun σ H Q h =>
    low_bm (fun F x y v v' H' H Q' Q rx ry A q h => by
      cases x with
      | ref a =>
        obtain ⟨xs, ys, h1, h2, h3, h4⟩ := h
        obtain ⟨vs, e1, t⟩ := A.list h1
        obtain ⟨b, us, e2, q2, t2⟩ := seqM_low A ry h2
        exact ⟨a, b, vs, us, rx, by rw [e2], e1, q2, by rw [← t.length, ← t2.length]; exact h3, (q .non _ h4 F _ _ (Same.refl _) rfl (A.write h1 ⟨_, rfl, t.append t2⟩))⟩
      | _ => exact (show False from h).elim) h
theorem seqIx_nat {n k : Nat} (h : k < n) : seqIndex? ((k : Nat) : Int) n = some k := by
  have e : L2.ixN n ((k : Nat) : Int) = some k := by
    unfold L2.ixN
    rw [if_pos (Int.natCast_nonneg k), if_pos (by omega)]
    simp
  exact (ixN_seq e).1
theorem w_pop {o e : Expr} {apos pos : Pos} {to te : TEW} (ho : PE X o (lowE X.K Wx to)) (he : PE X e (lowE X.K Wx te)) (hb : plainBase o = true) (hs : notStar e = true) (hl : (apos.endLine == pos.line) = true) :
    PE X (.Call (.Attribute o "pop" apos) [e] [] pos) (lowE X.K Wx (bmW popW to te)) :=
  PE.imp (pe_bm PySem.F.plainAttrs_list PySem.F.slot_list_pop PySem.F.type_list_pop mt_popAt ho (pa_cons he pa_nil (starEach_cons hs)) (base_of hb) (few_of hs) hl (starEach_cons hs) rfl) fun σ H Q h =>
    low_bm (fun F x y v v' H' H Q' Q rx ry A q h => by
      cases x with
      | ref a =>
        cases y with
        | int i =>
          obtain ⟨xs, j, w, h1, rfl, h2, h3, h4⟩ := h
          obtain ⟨vs, e1, t⟩ := A.list h1
          obtain ⟨u, eu, ru⟩ := t.get h3
          have hj : j < vs.length := (List.getElem?_eq_some_iff.mp eu).1
          exact ⟨a, vs, (j : Nat), j, u, rx, by rw [show v' = V.int ((j : Nat) : Int) from ry], e1, by omega, h2, seqIx_nat hj, eu, (q w _ h4 F _ _ (Same.refl _) ru (A.write h1 ⟨_, rfl, t.eraseIdx j⟩))⟩
        | _ => exact (show False from h).elim
      | _ => cases y <;> exact (show False from h).elim) h
/-! methods of dicts -/
theorem isDct_low {F : Hp} {x : W} {v : V} {H' : Hw} (A : AbH X.K F H' H) (r : RelW X.K F x v) (h : isDct x H') : ∃ a, v = .ref a ∧ IsD H a := by
  obtain ⟨a, kvs, rfl, h⟩ := h
  obtain ⟨vs, e, _⟩ := A.dict h
  exact ⟨a, r, .inl ⟨vs, .inl e⟩⟩
theorem m1_of {o e : Expr} {m : Str} {apos pos : Pos} (hb : plainBase o = true) (hs : notStar e = true) (hl : (apos.endLine == pos.line) = true) : M1 X o m apos e pos :=
  ⟨base_of hb, few_of hs, hl, by rw [starEach_cons hs]; rfl⟩
theorem m2_of {o e f : Expr} {m : Str} {apos pos : Pos} (hb : plainBase o = true) (hs : notStar e = true) (hs2 : notStar f = true) (hl : (apos.endLine == pos.line) = true) : M2 X o m apos e f pos :=
  ⟨base_of hb, by rw [backTo_all (by simp [hs, hs2])]; rfl, hl, by rw [starEach_cons hs, starEach_cons hs2]; rfl⟩
theorem w_get1 (C : Ctx g k X Wx) {o e : Expr} {apos pos : Pos} {to te : TEW} (ho : PE X o (lowE X.K Wx to)) (he : PE X e (lowE X.K Wx te)) (hb : plainBase o = true) (hs : notStar e = true) (hl : (apos.endLine == pos.line) = true) :
    PE X (.Call (.Attribute o "get" apos) [e] [] pos) (lowE X.K Wx fun σ H Q E => to σ H (fun x H1 => isDct x H1 ∧ te σ H1 (fun y H2 => ∃ a kvs j, x = .ref a ∧ H2 a = some (.dct kvs) ∧ keyW y = some j ∧ Q ((valW kvs j).getD .non) H2) E) E) :=
  PE.imp (pe_dget1 C.hu ho he (m1_of hb hs hl)) fun σ H Q ⟨F, σ', H', Q', E', rs, ab, qr, er, h⟩ => ⟨F, σ', H', _, E', rs, ab, fun x H1' hx F1 v H1 s1 rx ab1 => by
    obtain ⟨a, e1, hd⟩ := isDct_low ab1 rx hx.1
    refine ⟨a, e1, hd, F1, σ', H1', _, E', rs.mono s1, ab1, fun y H2' hy F2 v' H2 s2 ry ab2 => ?_, er.mono s1, hx.2⟩
    obtain ⟨b, kvs, j, rfl, h1, h2, h3⟩ := hy
    have eb : b = a := by rw [show v = V.ref b from rx] at e1; exact V.ref.inj e1
    subst eb
    obtain ⟨ov, dg, p1, p2⟩ := dget_low ry ab2 h1 h2
    refine ⟨ov, dg, ?_⟩
    cases e : valW kvs j with
    | none =>
      rw [e] at h3
      rw [p2 e]
      exact (qr.mono (s1.trans s2)).non ab2 h3
    | some w =>
      obtain ⟨u, eu, ru⟩ := p1 w e
      rw [e] at h3
      rw [eu]
      exact (qr.mono (s1.trans s2)).at ab2 ru h3, er, h⟩
theorem w_get2 (C : Ctx g k X Wx) {o e f : Expr} {apos pos : Pos} {to te tf : TEW} (ho : PE X o (lowE X.K Wx to)) (he : PE X e (lowE X.K Wx te)) (hf : PE X f (lowE X.K Wx tf)) (hb : plainBase o = true) (hs : notStar e = true) (hs2 : notStar f = true) (hl : (apos.endLine == pos.line) = true) :
    PE X (.Call (.Attribute o "get" apos) [e, f] [] pos) (lowE X.K Wx fun σ H Q E => to σ H (fun x H1 => isDct x H1 ∧ te σ H1 (fun y H2 => tf σ H2 (fun z H3 => ∃ a kvs j, x = .ref a ∧ H3 a = some (.dct kvs) ∧ keyW y = some j ∧ Q ((valW kvs j).getD z) H3) E) E) E) :=
  PE.imp (pe_dget2 C.hu ho he hf (m2_of hb hs hs2 hl)) fun σ H Q ⟨F, σ', H', Q', E', rs, ab, qr, er, h⟩ => ⟨F, σ', H', _, E', rs, ab, fun x H1' hx F1 v H1 s1 rx ab1 => by
    obtain ⟨a, e1, hd⟩ := isDct_low ab1 rx hx.1
    refine ⟨a, e1, hd, F1, σ', H1', _, E', rs.mono s1, ab1, fun y H2' hy F2 v' H2 s2 ry ab2 => ⟨F2, σ', H2', _, E', rs.mono (s1.trans s2), ab2, fun z H3' hz F3 v3 H3 s3 rz ab3 => ?_, er.mono (s1.trans s2), hy⟩, er.mono s1, hx.2⟩
    obtain ⟨b, kvs, j, rfl, h1, h2, h3⟩ := hz
    have eb : b = a := by rw [show v = V.ref b from rx] at e1; exact V.ref.inj e1
    subst eb
    obtain ⟨ov, dg, p1, p2⟩ := dget_low (RelW.mono s3 y ry) ab3 h1 h2
    refine ⟨ov, dg, ?_⟩
    cases e : valW kvs j with
    | none =>
      rw [e] at h3
      rw [p2 e]
      exact (qr.mono ((s1.trans s2).trans s3)).at ab3 rz h3
    | some w =>
      obtain ⟨u, eu, ru⟩ := p1 w e
      rw [e] at h3
      rw [eu]
      exact (qr.mono ((s1.trans s2).trans s3)).at ab3 ru h3, er, h⟩
theorem w_setd (C : Ctx g k X Wx) {o e f : Expr} {apos pos : Pos} {to te tf : TEW} (ho : PE X o (lowE X.K Wx to)) (he : PE X e (lowE X.K Wx te)) (hf : PE X f (lowE X.K Wx tf)) (hb : plainBase o = true) (hs : notStar e = true) (hs2 : notStar f = true) (hl : (apos.endLine == pos.line) = true) :
    PE X (.Call (.Attribute o "setdefault" apos) [e, f] [] pos) (lowE X.K Wx fun σ H Q E => to σ H (fun x H1 => isDct x H1 ∧ te σ H1 (fun y H2 => tf σ H2 (fun z H3 => ∃ a kvs j, x = .ref a ∧ H3 a = some (.dct kvs) ∧ keyW y = some j ∧ kvs.length < sizeLine ∧
      (∀ v, valW kvs j = some v → Q v H3) ∧ (valW kvs j = none → Q z (updW H3 a (.dct (putKW kvs j z))))) E) E) E) :=
  PE.imp (pe_dsetd ho he hf (m2_of hb hs hs2 hl)) fun σ H Q ⟨F, σ', H', Q', E', rs, ab, qr, er, h⟩ => ⟨F, σ', H', _, E', rs, ab, fun x H1' hx F1 v H1 s1 rx ab1 => by
    obtain ⟨a, e1, hd⟩ := isDct_low ab1 rx hx.1
    refine ⟨a, e1, hd, F1, σ', H1', _, E', rs.mono s1, ab1, fun y H2' hy F2 v' H2 s2 ry ab2 => ⟨F2, σ', H2', _, E', rs.mono (s1.trans s2), ab2, fun z H3' hz F3 v3 H3 s3 rz ab3 => ?_, er.mono (s1.trans s2), hy⟩, er.mono s1, hx.2⟩
    obtain ⟨b, kvs, j, rfl, h1, h2, h3, h4, h5⟩ := hz
    have eb : b = a := by rw [show v = V.ref b from rx] at e1; exact V.ref.inj e1
    subst eb
    obtain ⟨vs, ev, rk⟩ := ab3.dict h1
    have s := (s1.trans s2).trans s3
    obtain ⟨p1, p2⟩ := rk.val j
    refine ⟨vs, j, ev, keyW_low (RelW.mono s3 y ry) h2, by rw [← rk.length]; exact h3, fun u hu => ?_, fun hu => ?_⟩
    · cases e : valW kvs j with
      | none => rw [p2 e] at hu; cases hu
      | some w =>
        obtain ⟨u', eu, ru⟩ := p1 w e
        rw [eu] at hu
        cases hu
        exact (qr.mono s).at ab3 ru (h4 w e)
    · cases e : valW kvs j with
      | none => exact (qr.mono s) z _ (h5 e) F3 _ _ (Same.refl _) rz (ab3.write h1 ⟨_, rfl, rk.put j rz⟩)
      | some w =>
        obtain ⟨u', eu, _⟩ := p1 w e
        rw [eu] at hu
        exact absurd hu (by simp), er, h⟩
/-! list(range(n)), {}, {k: v, ..} -/
theorem w_lrng (C : Ctx g k X Wx) {a : Expr} {p p2 pos pos2 : Pos} {ta : TEW} (hg : Gl X "list") (hg2 : Gl X "range") (hs : notStar a = true) (ha : PE X a (lowE X.K Wx ta)) :
    PE X (.Call (.Name "list" p) [.Call (.Name "range" p2) [a] [] pos2] [] pos) (lowE X.K Wx fun σ H Q E => ta σ H (fun x H1 => ∃ n : Nat, x = .int n ∧ n ≤ 1000 ∧ newL (rngW 0 n 1) H1 Q) E) :=
  PE.imp (pe_listRg C.calm hg (C.free _ (by simp)) (prg_1 hg2 (C.free _ (by simp)) ha (starEach_cons hs)) rfl) fun σ H Q ⟨F, σ', H', Q', E', rs, ab, qr, er, h⟩ => ⟨F, σ', H', _, E', rs, ab, fun x H1' hx F1 v H1 s1 rx ab1 => by
    obtain ⟨n, rfl, hn, hq⟩ := hx
    refine ⟨(n : Nat), rx, ⟨by omega, by omega, by omega, by omega, by omega⟩, ?_⟩
    refine newL_low ab1 (qr.mono s1) ?_ hq
    unfold rngW rgV
    have e : ((n : Int) - 0).toNat = n := by omega
    rw [e]
    have gen : ∀ l : List Nat, RelWs X.K F1 (l.map fun (k : Nat) => W.int (0 + (k : Int) * 1)) (l.map fun i => V.int (0 + (i : Nat))) := by
      intro l
      induction l with
      | nil => exact rfl
      | cons y l ih => exact .cons (show RelW X.K F1 (.int (0 + (y : Int) * 1)) (.int (0 + (y : Nat))) from by show V.int _ = V.int _; rw [Int.mul_one]) ih
    exact gen _, er, h⟩
theorem w_dnew {pos : Pos} : PE X (.Dict [] [] pos) (lowE X.K Wx fun _ H Q _ => ∀ p, H p = none → Q (.ref p) (updW H p (.dct []))) :=
  PE.imp pe_dnewK fun σ H Q ⟨F, σ', H', Q', E', rs, ab, qr, er, h⟩ p hp => qr _ _ (h p (ab.noH hp)) F _ _ (Same.refl _) rfl (ab.new hp ⟨[], rfl, rfl⟩)
end
end WL

/-! ## The rules, lowered: walks, comprehensions, statements -/
namespace WL
open PySem L2
section
variable {g : Gm} {k : Nat} {X : Cx} {Wx : WX} {σ : L2.St} {H : Hp} {Q : VK}
theorem w_nil : PA X [] (lowA X.K Wx tNilW) := PA.imp pa_nil fun σ H Q h => low_nil h
theorem w_cons {e : Expr} {es : List Expr} {te : TEW} {ta : TAW} (he : PE X e (lowE X.K Wx te)) (ha : PA X es (lowA X.K Wx ta)) (hs : notStar e = true) : PA X (e :: es) (lowA X.K Wx (tConsW te ta)) :=
  PA.imp (pa_cons he ha (starEach_cons hs)) fun σ H Q h => low_cons h

/-! ### what is walked -/
def Walk (K : PySem.W.Frag) (F : Hp) (J : It) (items : List W) (stay : Hw → Prop) : Prop := ∀ F1 H' H, Same F F1 → AbH K F1 H' H → stay H' →
  (∀ (i : Nat) x, items[i]? = some x → J.go i H ∧ ∀ v H2, J.yld i H v H2 → H2 = H ∧ RelW K F1 x v) ∧ J.stop items.length H
def IR (K : PySem.W.Frag) (F : Hp) (R' : List W → (Hw → Prop) → Hw → Prop) (R : It → Hp → Prop) : Prop := ∀ items stay H1', R' items stay H1' → ∀ F1 H1 J, Same F F1 → AbH K F1 H1' H1 → Walk K F1 J items stay → R J H1
theorem IR.mono {K : PySem.W.Frag} {F F1 : Hp} {R' : List W → (Hw → Prop) → Hw → Prop} {R : It → Hp → Prop} (h : IR K F R' R) (s : Same F F1) : IR K F1 R' R := fun a b c d F2 H1 J s2 => h a b c d F2 H1 J (s.trans s2)
def lowI (K : PySem.W.Frag) (Wx : WX) (t : TIW) : TI := fun σ H R => ∃ F σ' H' R' E', RelS K F σ' σ ∧ AbH K F H' H ∧ IR K F R' R ∧ ER K F Wx σ E' ∧ t σ' H' R' E'
theorem PI.imp {tg iter : Expr} {t t' : TI} (h : PI X tg iter t) (i : ∀ σ H R, t' σ H R → t σ H R) : PI X tg iter t' := ⟨fun pins s σ H R I q => h.run pins s σ H R I (i σ H R q)⟩
/-- a list or a tuple -/
def iSeqV (K : PySem.W.Frag) (tl : TE) : TI := fun σ H R => tl σ H fun x H1 => ∃ a, x = .ref a ∧ (((∃ xs, SqL K H1 a xs) ∧ R (Itl K a) H1) ∨ ((∃ xs, SqT K H1 a xs) ∧ R (Itt K a) H1))
theorem pi_seq {tg l : Expr} {tl : TE} (hl : PE X l tl) : PI X tg l (iSeqV X.K tl) := by
  refine ⟨fun pins s σ H R I h => L2.thn (hl.run pins s σ H _ I h) fun v s1 ⟨x, H1, I1, rx, a, ex, q⟩ => ?_⟩
  subst ex
  obtain rfl : v = Value.ref a := rx
  have nw : ∀ b ∈ [s1.heap.objs.size], FpOk X pins H1 b := fun b hb => by
    have e : b = s1.heap.objs.size := List.mem_singleton.mp hb
    rw [e]
    exact I1.fpOk (Nat.le_refl _) (I1.hok.fresh (Nat.le_refl _))
  rcases q with ⟨⟨xs, hq⟩, q⟩ | ⟨⟨xs, hq⟩, q⟩
  · obtain ⟨its, rv, p, hz⟩ := I1.list hq
    exact wpAny_pyIter_list p.isList ⟨_, _, _, _, H1, rfl, I1.kept (t' := s1.toks) fun b o e => Heap.get?_push_of_some _ e, turn_list a _, ⟨_, Heap.get?_push_size _ rfl, rfl, rfl⟩, nw, q⟩
  · obtain ⟨its, rv, p, hz⟩ := I1.tuple hq
    exact wpAny_pyIter_tuple (show s1.heap.IsTuple a its.toArray from p) ⟨_, _, _, _, H1, rfl, I1.kept (t' := s1.toks) fun b o e => Heap.get?_push_of_some _ e, turn_tuple a _, ⟨_, Heap.get?_push_size _ rfl, rfl, rfl⟩, nw, q⟩
theorem walk_list {K : PySem.W.Frag} {F : Hp} {w : W} {a : Addr} {xs : List W} (r : RelW K F w (.ref a)) (hs : ∀ F1 H' H, AbH K F1 H' H → RelW K F1 w (.ref a) → seqA H' w xs → ∃ vs, SqL K H a vs ∧ RelWs K F1 xs vs) : Walk K F (Itl K a) xs (fun H => seqA H w xs) := by
  intro F1 H' H s A st
  obtain ⟨vs, q, t⟩ := hs F1 H' H A (RelW.mono s w r) st
  refine ⟨fun i x hx => ?_, ⟨vs, q, Nat.le_of_eq t.length.symm⟩⟩
  obtain ⟨v, hv, rv⟩ := t.get hx
  refine ⟨⟨vs, v, q, hv⟩, fun u H2 hy => ⟨hy.1, ?_⟩⟩
  have e := hy.2 vs q
  rw [hv] at e
  rw [← Option.some.inj e]
  exact rv
theorem walk_tup {K : PySem.W.Frag} {F : Hp} {w : W} {a : Addr} {xs : List W} (r : RelW K F w (.ref a)) (hs : ∀ F1 H' H, AbH K F1 H' H → RelW K F1 w (.ref a) → seqA H' w xs → ∃ vs, SqT K H a vs ∧ RelWs K F1 xs vs) : Walk K F (Itt K a) xs (fun H => seqA H w xs) := by
  intro F1 H' H s A st
  obtain ⟨vs, q, t⟩ := hs F1 H' H A (RelW.mono s w r) st
  refine ⟨fun i x hx => ?_, ⟨vs, q, Nat.le_of_eq t.length.symm⟩⟩
  obtain ⟨v, hv, rv⟩ := t.get hx
  refine ⟨⟨vs, v, q, hv⟩, fun u H2 hy => ⟨hy.1, ?_⟩⟩
  have e := hy.2 vs q
  rw [hv] at e
  rw [← Option.some.inj e]
  exact rv
theorem walk_rng {K : PySem.W.Frag} {F : Hp} {lo c : Int} {n : Nat} {J : It} (hg : ∀ i H, J.go i H ↔ i < n) (hy : ∀ i H v H2, J.yld i H v H2 → H2 = H ∧ v = .int (lo + (i : Nat) * c)) (hs : ∀ i H, n ≤ i → J.stop i H) : Walk K F J (rngW lo n c) (fun _ => True) := by
  intro F1 H' H s A _
  have hl : (rngW lo n c).length = n := by unfold rngW; rw [List.length_map, List.length_range]
  refine ⟨fun i x hx => ?_, hs _ H (by rw [hl]; exact Nat.le_refl _)⟩
  have hi : i < n := by rw [← hl]; exact (List.getElem?_eq_some_iff.mp hx).1
  refine ⟨(hg i H).mpr hi, fun v H2 y => ?_⟩
  obtain ⟨e1, e2⟩ := hy i H v H2 y
  refine ⟨e1, ?_⟩
  unfold rngW at hx
  rw [List.getElem?_map, List.getElem?_range hi] at hx
  have ex : W.int (lo + (i : Int) * c) = x := Option.some.inj hx
  rw [← ex]
  exact e2
theorem w_it {tg e : Expr} {te : TEW} (he : PE X e (lowE X.K Wx te)) : PI X tg e (lowI X.K Wx fun σ H Q E => te σ H (fun x H1 => ∃ xs, seqA H1 x xs ∧ Q xs (fun H => seqA H x xs) H1) E) :=
  PI.imp (pi_seq he) fun σ H R ⟨F, σ', H', R', E', rs, ab, ir, er, h⟩ => ⟨F, σ', H', _, E', rs, ab, fun x H1' hx F1 v H1 s1 rx ab1 => by
    obtain ⟨xs, h1, h2⟩ := hx
    cases x with
    | tup l =>
      obtain ⟨a, vs, e1, q1, t⟩ := id rx
      have el : l = xs := h1
      subst el
      refine ⟨a, e1, .inr ⟨⟨vs, SqT.of (ab1.sub _ _ q1)⟩, ir _ _ H1' h2 F1 H1 _ s1 ab1 (walk_tup (by rw [← e1]; exact rx) fun F2 H2' H2 A r st => ?_)⟩⟩
      obtain ⟨b, us, e2, q2, t2⟩ := r
      cases e2
      exact ⟨us, SqT.of (A.sub _ _ q2), t2⟩
    | fls l =>
      obtain ⟨a, vs, e1, q1, t⟩ := seqL_low ab1 rx h1
      refine ⟨a, e1, .inl ⟨⟨vs, q1⟩, ir _ _ H1' h2 F1 H1 _ s1 ab1 (walk_list (by rw [← e1]; exact rx) fun F2 H2' H2 A r st => ?_)⟩⟩
      obtain ⟨b, us, e2, q2, t2⟩ := seqL_low A r st
      cases e2
      exact ⟨us, q2, t2⟩
    | scr l =>
      obtain ⟨a, vs, e1, q1, t⟩ := seqL_low ab1 rx h1
      refine ⟨a, e1, .inl ⟨⟨vs, q1⟩, ir _ _ H1' h2 F1 H1 _ s1 ab1 (walk_list (by rw [← e1]; exact rx) fun F2 H2' H2 A r st => ?_)⟩⟩
      obtain ⟨b, us, e2, q2, t2⟩ := seqL_low A r st
      cases e2
      exact ⟨us, q2, t2⟩
    | ref l =>
      obtain ⟨a, vs, e1, q1, t⟩ := seqL_low ab1 rx h1
      refine ⟨a, e1, .inl ⟨⟨vs, q1⟩, ir _ _ H1' h2 F1 H1 _ s1 ab1 (walk_list (by rw [← e1]; exact rx) fun F2 H2' H2 A r st => ?_)⟩⟩
      obtain ⟨b, us, e2, q2, t2⟩ := seqL_low A r st
      cases e2
      exact ⟨us, q2, t2⟩
    | non => exact (show False from h1).elim
    | bl _ => exact (show False from h1).elim
    | int _ => exact (show False from h1).elim
    | str _ => exact (show False from h1).elim, er, h⟩
theorem rngW_one (lo : Int) (n : Nat) (i : Nat) : lo + (i : Int) * 1 = lo + i := by rw [Int.mul_one]
theorem w_r1 (C : Ctx g k X Wx) {tg a : Expr} {p pos : Pos} {ta : TEW} (hg : Gl X "range") (hs : notStar a = true) (ha : PE X a (lowE X.K Wx ta)) :
    PI X tg (.Call (.Name "range" p) [a] [] pos) (lowI X.K Wx fun σ H Q E => ta σ H (fun x H1 => ∃ n : Int, x = .int n ∧ -(2 ^ 62) ≤ n ∧ n < 2 ^ 62 ∧ Q (rngW 0 n.toNat 1) (fun _ => True) H1) E) :=
  PI.imp (pi_range1 hg (C.free _ (by simp)) (pa_cons ha pa_nil (starEach_cons hs)) (starEach_cons hs)) fun σ H R ⟨F, σ', H', R', E', rs, ab, ir, er, h⟩ => ⟨F, σ', H', _, E', rs, ab, fun x H1' hx F1 v H1 s1 rx ab1 => by
    obtain ⟨n, rfl, b1, b2, hq⟩ := hx
    refine ⟨n, by rw [show v = V.int n from rx], b1, b2, ir _ _ H1' hq F1 H1 _ s1 ab1 (walk_rng (fun i H => Iff.rfl) (fun i H v H2 y => ⟨y.1, ?_⟩) fun i H z => z)⟩
    rw [rngW_one]
    · exact y.2
    · exact 0, er, h⟩
theorem w_r2 (C : Ctx g k X Wx) {tg a b : Expr} {p pos : Pos} {ta tb : TEW} (hg : Gl X "range") (hs : notStar a = true) (hs2 : notStar b = true) (ha : PE X a (lowE X.K Wx ta)) (hb : PE X b (lowE X.K Wx tb)) :
    PI X tg (.Call (.Name "range" p) [a, b] [] pos) (lowI X.K Wx fun σ H Q E => ta σ H (fun x H1 => tb σ H1 (fun y H2 => ∃ i j : Int, x = .int i ∧ y = .int j ∧ (-(2 ^ 62) ≤ i ∧ i < 2 ^ 62 ∧ -(2 ^ 62) ≤ j ∧ j < 2 ^ 62) ∧ Q (rngW i (j - i).toNat 1) (fun _ => True) H2) E) E) :=
  PI.imp (pi_range2 hg (C.free _ (by simp)) (pa_cons ha (pa_cons hb pa_nil (starEach_cons hs2)) (starEach_cons hs)) (by rw [starEach_cons hs, starEach_cons hs2]; rfl) (starEach_cons hs2)) fun σ H R ⟨F, σ', H', R', E', rs, ab, ir, er, h⟩ => ⟨F, σ', H', _, E', rs, ab, fun x H1' hx F1 v H1 s1 rx ab1 =>
    ⟨F1, σ', H1', _, E', rs.mono s1, ab1, fun y H2' hy F2 v' H2 s2 ry ab2 => by
      obtain ⟨i, j, rfl, rfl, b1, hq⟩ := hy
      refine ⟨i, j, by rw [show v = V.int i from rx, show v' = V.int j from ry], b1, ir _ _ H2' hq F2 H2 _ (s1.trans s2) ab2 (walk_rng (fun i H => Iff.rfl) (fun i H v H2 y => ⟨y.1, ?_⟩) fun i H z => z)⟩
      rw [rngW_one]
      · exact y.2
      · exact 0, er.mono s1, hx⟩, er, h⟩
theorem w_r3 (C : Ctx g k X Wx) {tg a b c : Expr} {p pos : Pos} {ta tb tc : TEW} (hg : Gl X "range") (hs : notStar a = true) (hs2 : notStar b = true) (hs3 : notStar c = true) (ha : PE X a (lowE X.K Wx ta)) (hb : PE X b (lowE X.K Wx tb)) (hc : PE X c (lowE X.K Wx tc)) :
    PI X tg (.Call (.Name "range" p) [a, b, c] [] pos) (lowI X.K Wx fun σ H Q E => ta σ H (fun x H1 => tb σ H1 (fun y H2 => tc σ H2 (fun z H3 => ∃ i j k n, x = .int i ∧ y = .int j ∧ z = .int k ∧ RgC i j k n ∧ Q (rngW i n k) (fun _ => True) H3) E) E) E) :=
  PI.imp (pi_range3 hg (C.free _ (by simp)) (pa_cons ha (pa_cons hb (pa_cons hc pa_nil (starEach_cons hs3)) (starEach_cons hs2)) (starEach_cons hs)) (starEach_cons hs) (backTo_any (by simp [hs2, hs3]))) fun σ H R ⟨F, σ', H', R', E', rs, ab, ir, er, h⟩ =>
    ⟨F, σ', H', _, E', rs, ab, fun x H1' hx F1 v H1 s1 rx ab1 => ⟨F1, σ', H1', _, E', rs.mono s1, ab1, fun y H2' hy F2 v' H2 s2 ry ab2 => ⟨F2, σ', H2', _, E', rs.mono (s1.trans s2), ab2, fun z H3' hz F3 v3 H3 s3 rz ab3 => by
      obtain ⟨i, j, k, n, rfl, rfl, rfl, b1, hq⟩ := hz
      exact ⟨i, j, k, n, by rw [show v = V.int i from rx, show v' = V.int j from ry, show v3 = V.int k from rz], b1, ir _ _ H3' hq F3 H3 _ ((s1.trans s2).trans s3) ab3 (walk_rng (fun i H => Iff.rfl) (fun i H v H2 y => y) fun i H z => z)⟩, er.mono (s1.trans s2), hy⟩, er.mono s1, hx⟩, er, h⟩

/-! ### comprehensions -/
theorem RelS.wipe1 {K : PySem.W.Frag} {F : Hp} {σ' : Sw} {σ : L2.St} (r : RelS K F σ' σ) (i : Nat) : RelS K F (σ'.set i none) (wipe σ [i]) := r.unset i
theorem set_set_none {α : Type} : ∀ (l : List (Option α)) (i : Nat) (v : Option α), ((l.set i v).set i none) = l.set i none
  | [], _, _ => rfl
  | _ :: _, 0, _ => rfl
  | x :: l, i + 1, v => congrArg (x :: ·) (set_set_none l i v)
theorem low_lcm {i : Nat} {it : TIW} {t : TTW} {elt : TEW} (h : lowE X.K Wx (compW i it t elt) σ H Q) :
    tLc (lowI X.K Wx it) (gName i) (lowT X.K (fun _ _ _ _ => False) t) (lowE X.K (fun _ _ _ _ => False) elt) [i] σ H Q := by
  obtain ⟨F, σ', H', Q', E', rs, ab, qr, er, h⟩ := h
  refine ⟨F, σ', H', _, E', rs, ab, fun items stay H1' hx F1 H1 J s1 ab1 wk D hD => ?_, er, h⟩
  have r1 := (rs.mono s1).wipe1 i
  have hD' := ab1.noH hD
  have ab2 : AbH X.K F1 (updW H1' D (.lst [])) (upd H1 D (.lst [])) := ab1.new hD ⟨[], rfl, rfl⟩
  have h0 := hx D hD'
  refine ⟨fun j m Hm => m = items.length - j ∧ j ≤ items.length ∧ ∃ F2 Hw2, Same F1 F2 ∧ AbH X.K F2 Hw2 Hm ∧ compGo D (σ'.set i none) i stay t elt (fun H2 => Q' (.ref D) H2 ∨ ∃ acc, H2 D = some (.lst acc) ∧ Q' (.fls acc) (delW H2 D)) (items.drop j) Hw2,
    ⟨items.length, by simp, Nat.zero_le _, F1, _, Same.refl _, ab2, h0⟩, ?_⟩
  rintro j m Hm ⟨rfl, hj, F2, Hw2, s2, ab3, hgo⟩
  by_cases hlt : j < items.length
  · have ed : items.drop j = items[j] :: items.drop (j + 1) := List.drop_eq_getElem_cons hlt
    rw [ed] at hgo
    obtain ⟨hst, hgo⟩ := hgo
    obtain ⟨w1, w2⟩ := wk F2 Hw2 Hm s2 ab3 hst
    obtain ⟨g1, g2⟩ := w1 j items[j] (List.getElem?_eq_getElem hlt)
    have nextW : ∀ {F3 : Hp} {Hw3 : Hw} {H3 : Hp}, Same F1 F3 → AbH X.K F3 Hw3 H3 → compGo D (σ'.set i none) i stay t elt (fun H2 => Q' (.ref D) H2 ∨ ∃ acc, H2 D = some (.lst acc) ∧ Q' (.fls acc) (delW H2 D)) (items.drop (j + 1)) Hw3 →
        (∃ F2 Hw2, Same F1 F2 ∧ AbH X.K F2 Hw2 H3 ∧ compGo D (σ'.set i none) i stay t elt (fun H2 => Q' (.ref D) H2 ∨ ∃ acc, H2 D = some (.lst acc) ∧ Q' (.fls acc) (delW H2 D)) (items.drop (j + 1)) Hw2) := fun a b c => ⟨_, _, a, b, c⟩
    refine .inr ⟨g1, fun Hn => ∃ F2 Hw2, Same F1 F2 ∧ AbH X.K F2 Hw2 Hn ∧ compGo D (σ'.set i none) i stay t elt (fun H2 => Q' (.ref D) H2 ∨ ∃ acc, H2 D = some (.lst acc) ∧ Q' (.fls acc) (delW H2 D)) (items.drop (j + 1)) Hw2,
      fun Hn hn => ⟨items.length - (j + 1), by omega, rfl, hlt, hn⟩, fun x Hy hy => ?_⟩
    obtain ⟨eH, rx⟩ := g2 x Hy hy
    subst eH
    refine ⟨?_, ?_⟩
    · show ((wipe σ [i]).set i (some x)).set i none = σ.set i none
      rw [set_set_none]
      exact set_set_none σ i none
    · have r3 : RelS X.K F2 ((σ'.set i none).set i (some items[j])) ((wipe σ [i]).set i (some x)) := (r1.mono s2).set rx i
      refine ⟨F2, _, Hw2, _, _, r3, ab3, fun b H3' hb F3 H3 s3 ab4 => ?_, (fun C H3' hC => hC.elim), hgo⟩
      cases b with
      | false =>
        rw [if_neg Bool.false_ne_true] at hb ⊢
        exact nextW (s2.trans s3) ab4 hb
      | true =>
        rw [if_pos rfl] at hb ⊢
        refine ⟨F3, _, H3', _, _, r3.mono s3, ab4, fun y H4' hy F4 v H4 s4 ry ab5 => ?_, (fun C H3' hC => hC.elim), hb⟩
        obtain ⟨acc, ea, hl, hgo2⟩ := hy
        obtain ⟨vs, ev, rv⟩ := ab5.list ea
        exact ⟨vs, ev, by rw [← rv.length]; exact hl, nextW ((s2.trans s3).trans s4) (ab5.write (w := .lst (acc ++ [y])) ea ⟨_, rfl, rv.append (.cons ry .nil)⟩) hgo2⟩
  · have ej : j = items.length := by omega
    subst ej
    rw [List.drop_length] at hgo
    obtain ⟨hst, hq⟩ := hgo
    obtain ⟨w1, w2⟩ := wk F2 Hw2 Hm s2 ab3 hst
    refine .inl ⟨w2, ?_⟩
    rcases hq with hq | ⟨acc, ea, hq⟩
    · exact (qr.mono (s1.trans s2)).ref ab3 hq
    · obtain ⟨F3, s3, ab4, r4⟩ := ab3.freeze ea
      exact qr _ _ hq F3 _ _ ((s1.trans s2).trans s3) r4 ab4
end
end WL

/-! ## The rules, lowered: displays, statements -/
namespace WL
open PySem L2
section
variable {g : Gm} {k : Nat} {X : Cx} {Wx : WX} {σ : L2.St} {H : Hp} {Q : VK}
def trsOf (K : PySem.W.Frag) (Wx : WX) (g : Gm) : CPs → List (TE × TE)
  | .nil => []
  | .cons a b r => (lowE K Wx (denE g a), lowE K Wx (denE g b)) :: trsOf K Wx g r
def PR (K : PySem.W.Frag) (F : Hp) (P' : List (Key × W) → Hw → Prop) (P : List (V × V) → Hp → Prop) : Prop :=
  ∀ kvs H', P' kvs H' → ∀ F1 vs H, Same F F1 → RelKs K F1 kvs vs → AbH K F1 H' H → P (vs.map fun kv => (kV kv.1, kv.2)) H
theorem low_pairs : ∀ (ps : CPs) {F : Hp} {σ' : Sw} {H' : Hw} {H : Hp} {P' : List (Key × W) → Hw → Prop} {P : List (V × V) → Hp → Prop} {E' : EW}, RelS X.K F σ' σ → AbH X.K F H' H → PR X.K F P' P → ER X.K F Wx σ E' → denP g ps σ' H' P' E' →
    tPairs (trsOf X.K Wx g ps) σ H P
  | .nil, F, σ', H', H, P', P, E', rs, ab, pr, er, h => pr [] H' h F [] H (Same.refl _) rfl ab
  | .cons a b r, F, σ', H', H, P', P, E', rs, ab, pr, er, h => by
    refine ⟨F, σ', H', _, E', rs, ab, fun x H1' hx F1 v H1 s1 rx ab1 => ?_, er, h⟩
    refine ⟨F1, σ', H1', _, E', rs.mono s1, ab1, fun y H2' hy F2 u H2 s2 ry ab2 => ?_, er.mono s1, hx⟩
    refine low_pairs r (rs.mono (s1.trans s2)) ab2 (fun kvs H3' hk F3 vs H3 s3 rk ab3 => ?_) (er.mono (s1.trans s2)) hy
    obtain ⟨j, hj, hp⟩ := hk
    have e := pr _ H3' hp F3 ((j, u) :: vs) H3 ((s1.trans s2).trans s3) ⟨u, vs, rfl, RelW.mono s3 y ry, rk⟩ ab3
    rw [keyW_low (RelW.mono (s2.trans s3) x rx) hj]
    exact e
theorem RelKs.foldPut {K : PySem.W.Frag} {F : Hp} : ∀ {kvs : List (Key × W)} {vs : List (Key × V)} {a : List (Key × W)} {b : List (Key × V)}, RelKs K F kvs vs → RelKs K F a b → RelKs K F (kvs.foldl (fun acc kv => putKW acc kv.1 kv.2) a) (mergeK b vs)
  | [], _, a, b, h, h2 => by
    rw [show _ = [] from h]
    exact h2
  | x :: xs, _, a, b, ⟨v, r, e, h, t⟩, h2 => by
    rw [e]
    exact RelKs.foldPut (kvs := xs) (vs := r) (a := putKW a x.1 x.2) (b := putK b x.1 v) t (h2.put x.1 h)
theorem RelKs.len_eq {K : PySem.W.Frag} {F : Hp} {kvs : List (Key × W)} {vs : List (Key × V)} (r : RelKs K F kvs vs) : kvs.length = vs.length := r.length
theorem w_dct {keys : List (Option Expr)} {values : List Expr} {pos : Pos} {ps : CPs} (h : PPs X pos keys values (trsOf X.K Wx g ps)) (hall : keys.all (·.isSome) = true) (hl : keys.length = values.length) (h0 : keys ≠ []) (h15 : keys.length ≤ 15) :
    PE X (.Dict keys values pos) (lowE X.K Wx (denE g (.dct ps))) :=
  PE.imp (pe_disp h hall hl h0 h15) fun σ H Q ⟨F, σ', H', Q', E', rs, ab, qr, er, h⟩ p hp =>
    low_pairs ps rs (ab.new (w := .dct []) hp ⟨[], rfl, rfl⟩) (fun kvs H1' hk F1 vs H1 s1 rk ab1 => by
      obtain ⟨e, h1, h2⟩ := hk
      obtain ⟨us, eu, ru⟩ := ab1.dict e
      have e0 : us = [] := ru
      rw [e0] at eu
      exact ⟨eu, vs, rfl, by rw [← rk.length]; exact h1, qr _ _ h2 F1 _ _ s1 rfl (ab1.write e ⟨_, rfl, rk.foldPut rfl⟩)⟩) er (h p (ab.noH hp))

/-! ### statements -/
structure DR (K : PySem.W.Frag) (Wx : WX) (F : Hp) (D' : EndW) (D : Ends) : Prop where
  nx : ∀ σ' H', D'.nx σ' H' → ∀ F1 σ H, Same F F1 → RelS K F1 σ' σ → AbH K F1 H' H → D.nx σ H
  rt : QR K F D'.rt D.rt
  bk : ∀ σ' H', D'.bk σ' H' → ∀ F1 σ H, Same F F1 → RelS K F1 σ' σ → AbH K F1 H' H → D.bk σ H
  ct : ∀ σ' H', D'.ct σ' H' → ∀ F1 σ H, Same F F1 → RelS K F1 σ' σ → AbH K F1 H' H → D.ct σ H
  ex : ∀ C σ' H', D'.ex C σ' H' → ∀ F1 σ H, Same F F1 → RelS K F1 σ' σ → AbH K F1 H' H → Wx (.ref C) none σ H
theorem DR.mono {K : PySem.W.Frag} {F F1 : Hp} {D' : EndW} {D : Ends} (d : DR K Wx F D' D) (s : Same F F1) : DR K Wx F1 D' D :=
  ⟨fun a b c F2 σ H s2 => d.nx a b c F2 σ H (s.trans s2), d.rt.mono s, fun a b c F2 σ H s2 => d.bk a b c F2 σ H (s.trans s2), fun a b c F2 σ H s2 => d.ct a b c F2 σ H (s.trans s2), fun C a b c F2 σ H s2 => d.ex C a b c F2 σ H (s.trans s2)⟩
theorem DR.er {K : PySem.W.Frag} {F : Hp} {D' : EndW} {D : Ends} {σ' : Sw} {σ : L2.St} (d : DR K Wx F D' D) (rs : RelS K F σ' σ) : ER K F Wx σ fun C H1 => D'.ex C σ' H1 := fun C H' h F1 H s ab => d.ex C σ' H' h F1 σ H s (rs.mono s) ab
def lowS (K : PySem.W.Frag) (Wx : WX) (t : TSW) : TS := fun D σ H => ∃ F σ' H' D', RelS K F σ' σ ∧ AbH K F H' H ∧ DR K Wx F D' D ∧ t D' σ' H'
theorem s_pass {pos : Pos} : PS X (.Pass pos) (lowS X.K Wx fun D σ H => D.nx σ H) := PS.imp ps_pass fun D σ H ⟨F, σ', H', D', rs, ab, d, h⟩ => d.nx σ' H' h F σ H (Same.refl _) rs ab
theorem s_nil : PSs X [] (lowS X.K Wx fun D σ H => D.nx σ H) := PSs.imp pss_nil fun D σ H ⟨F, σ', H', D', rs, ab, d, h⟩ => d.nx σ' H' h F σ H (Same.refl _) rs ab
theorem s_cons {s : Stmt} {r : List Stmt} {a b : TSW} (h1 : PS X s (lowS X.K Wx a)) (h2 : PSs X r (lowS X.K Wx b)) : PSs X (s :: r) (lowS X.K Wx (seqW a b)) :=
  PSs.imp (pss_cons h1 h2) fun D σ H ⟨F, σ', H', D', rs, ab, d, h⟩ => ⟨F, σ', H', { D' with nx := b D' }, rs, ab, ⟨fun σ1' H1' hn F1 σ1 H1 s1 rs1 ab1 => ⟨F1, σ1', H1', D', rs1, ab1, d.mono s1, hn⟩, d.rt, d.bk, d.ct, d.ex⟩, h⟩
theorem s_expr {e : Expr} {pos : Pos} {te : TEW} (he : PE X e (lowE X.K Wx te)) (hs : notComp e = true) : PS X (.Expr e pos) (lowS X.K Wx fun D σ H => te σ H (fun _ H1 => D.nx σ H1) fun C H1 => D.ex C σ H1) :=
  PS.imp (ps_expr he (swaps_of hs)) fun D σ H ⟨F, σ', H', D', rs, ab, d, h⟩ => ⟨F, σ', H', _, _, rs, ab, fun x H1' hx F1 v H1 s1 rx ab1 => d.nx σ' H1' hx F1 σ H1 s1 (rs.mono s1) ab1, d.er rs, h⟩
theorem s_ret {e : Expr} {pos : Pos} {te : TEW} (he : PE X e (lowE X.K Wx te)) : PS X (.Return (some e) pos) (lowS X.K Wx fun D σ H => te σ H D.rt fun C H1 => D.ex C σ H1) :=
  PS.imp (ps_ret he) fun D σ H ⟨F, σ', H', D', rs, ab, d, h⟩ => ⟨F, σ', H', _, _, rs, ab, d.rt, d.er rs, h⟩
theorem s_retN {pos : Pos} : PS X (.Return none pos) (lowS X.K Wx fun D _ H => D.rt .non H) :=
  PS.imp ps_retN fun D σ H ⟨F, σ', H', D', rs, ab, d, h⟩ => d.rt.non ab h
theorem s_if {c : Expr} {a b : List Stmt} {pos : Pos} {tc : TTW} {ta tb : TSW} (hc : PT X c (lowT X.K Wx tc)) (ha : PSs X a (lowS X.K Wx ta)) (hb : PSs X b (lowS X.K Wx tb)) :
    PS X (.If c a b pos) (lowS X.K Wx fun D σ H => tc σ H (fun c H1 => if c = true then ta D σ H1 else tb D σ H1) fun C H1 => D.ex C σ H1) :=
  PS.imp (ps_if hc ha hb) fun D σ H ⟨F, σ', H', D', rs, ab, d, h⟩ => ⟨F, σ', H', _, _, rs, ab, fun c H1' hc F1 H1 s1 ab1 => by
    cases c with
    | true =>
      rw [if_pos rfl] at hc ⊢
      exact ⟨F1, σ', H1', D', rs.mono s1, ab1, d.mono s1, hc⟩
    | false =>
      rw [if_neg Bool.false_ne_true] at hc ⊢
      exact ⟨F1, σ', H1', D', rs.mono s1, ab1, d.mono s1, hc⟩, d.er rs, h⟩
theorem s_set {i : Nat} {x : Str} {e : Expr} {te : TEW} {pos pos' : Pos} (hN : X.N.Nodup) (hi : X.N[i]? = some x) (hx : Loc X.env.scope x) (hf : X.fn x = true ∨ X.env.scope.names.lookup x = some .local) (he : PE X e (lowE X.K Wx te)) (hs : swapsWith e (some (.Name x pos')) pos.line X.env = pure false) :
    PS X (.Assign [.Name x pos'] e pos) (lowS X.K Wx fun D σ H => te σ H (fun x H1 => D.nx (σ.set i (some x)) H1) fun C H1 => D.ex C σ H1) :=
  PS.imp (ps_set hN hi hx he hs hf) fun D σ H ⟨F, σ', H', D', rs, ab, d, h⟩ => ⟨F, σ', H', _, _, rs, ab, fun w H1' hw F1 v H1 s1 rw' ab1 => d.nx _ H1' hw F1 _ H1 s1 ((rs.mono s1).set rw' i) ab1, d.er rs, h⟩
theorem s_setLc {i j : Nat} {x y : Str} {elt it : Expr} {ifs : List Expr} {scope : Scope} {pos spos py px : Pos} {ti : TIW} {tt : TTW} {te : TEW} (hc : X.calm = true) (hN : X.N.Nodup) (hy : X.N[i]? = some y) (hyl : X.env.scope.names.lookup y = some .local)
    (hsw : swapsWith (.ListComp elt [⟨.Name x px, it, ifs, 0⟩] scope pos) (some (.Name y py)) spos.line X.env = pure true) (hi : PI X (.Name x px) it (lowI X.K Wx ti)) (ok : BlkOk X.N X.env.scope scope [(x, j)])
    (hg : ∀ (s : Shared) (H : Hp) (C : Addr) (cl : List (Str × Addr)) (fp : List Addr), PG (X.blk s H scope (compEnvC scope cl C X.env) fp) (.Name x px) (gName j))
    (ht : ∀ (s : Shared) (H : Hp) (C : Addr) (cl : List (Str × Addr)) (fp : List Addr), PTs (X.blk s H scope (compEnvC scope cl C X.env) fp) ifs (lowT X.K (fun _ _ _ _ => False) tt))
    (he : ∀ (s : Shared) (H : Hp) (C : Addr) (cl : List (Str × Addr)) (fp : List Addr), PE (X.blk s H scope (compEnvC scope cl C X.env) fp) elt (lowE X.K (fun _ _ _ _ => False) te)) (hs : ∀ z, foldedSetIterable it X.env z = pure z) :
    PS X (.Assign [.Name y py] (.ListComp elt [⟨.Name x px, it, ifs, 0⟩] scope pos) spos) (lowS X.K Wx fun D σ H => compW j ti tt te σ H (fun x H1 => D.nx (σ.set i (some x)) H1) fun C H1 => D.ex C σ H1) :=
  PS.imp (ps_setLc (own := [(x, j)]) hc hN hy hyl hsw hi ok hg ht he hs) fun D σ H ⟨F, σ', H', D', rs, ab, d, h⟩ =>
    low_lcm (Q := fun x H1 => D.nx (σ.set i (some x)) H1) ⟨F, σ', H', _, _, rs, ab, fun w H1' hw F1 v H1 s1 rw' ab1 => d.nx _ H1' hw F1 _ H1 s1 ((rs.mono s1).set rw' i) ab1, d.er rs, h⟩
theorem s_fset (S : Says g k X) {o value : Expr} {f : Str} {pos pos' : Pos} {to tv : TEW} (ho : PE X o (lowE X.K Wx to)) (hv : PE X value (lowE X.K Wx tv)) (hs : swapsWith value (some (.Attribute o f pos')) pos.line X.env = pure false) :
    PS X (.Assign [.Attribute o f pos'] value pos) (lowS X.K Wx fun D σ H => tv σ H (fun y H1 => to σ H1 (fun x H2 => ∃ a C fs, x = .ref a ∧ H2 a = some (.ins C fs) ∧ g.fld C f ∧ fs.length < 1000 ∧ D.nx σ (updW H2 a (.ins C (putFW f y fs)))) fun C H1 => D.ex C σ H1) fun C H1 => D.ex C σ H1) :=
  PS.imp (ps_fld ho hv hs) fun D σ H ⟨F, σ', H', D', rs, ab, d, h⟩ => ⟨F, σ', H', _, _, rs, ab, fun y H1' hy F1 v H1 s1 ry ab1 => ⟨F1, σ', H1', _, _, rs.mono s1, ab1, fun x H2' hx F2 u H2 s2 rx ab2 => by
    obtain ⟨a, C, fs, rfl, h1, h2, h3, h4⟩ := hx
    obtain ⟨dx, vs, e, rk⟩ := ab2.inst h1
    obtain ⟨c1, c2⟩ := S.fld C f h2
    exact ⟨a, C, dx, vs, rx, e, c1, c2, by rw [← rk.length]; exact h3, d.nx _ _ h4 F2 _ _ (s1.trans s2) (rs.mono (s1.trans s2)) (ab2.write h1 ⟨dx, _, rfl, RelKs.putF (RelW.mono s2 y ry) rk⟩)⟩, (d.er rs).mono s1, hy⟩, d.er rs, h⟩
/-- o[i] = e, of a dict, or of a list -/
def sISet (tv to ti : TE) : TS := fun D σ H => tv σ H fun v H1 => to σ H1 fun x H2 => ti σ H2 fun y H3 => (∃ a H4, x = .ref a ∧ DPut H3 a y v H4 ∧ D.nx σ H4) ∨ rSetL x y v H3 fun H4 => D.nx σ H4
theorem ps_iset {o i value : Expr} {pos pos' : Pos} {to ti tv : TE} (hu : X.A.units + 1 < cLine) (ho : PE X o to) (hi : PE X i ti) (hv : PE X value tv) (hs : swapsWith value (some (.Subscript o i pos')) pos.line X.env = pure false) :
    PS X (.Assign [.Subscript o i pos'] value pos) (sISet tv to ti) := by
  refine ⟨fun pins s σ H D I h => wpAny_Assign_Subscript (L2.thn (hv.run pins s σ H _ I h) fun r s1 ⟨v, H1, I1, rv, q1⟩ => L2.thn (ho.run pins s1 σ H1 _ I1 q1) fun u s2 ⟨x, H2, I2, rx, q2⟩ => L2.thn (hi.run pins s2 σ H2 _ I2 q2) fun iv s3 ⟨y, H3, I3, ry, q3⟩ => ?_) hs⟩
  rcases q3 with ⟨a, H4, ex, dp, q⟩ | q
  · subst ex
    obtain rfl : u = Value.ref a := rx
    exact d_setItem hu I3 dp ry rv fun s4 I4 => ⟨σ, H4, I4, q⟩
  · exact L2.thn (set_list pins s3 σ H3 x y v u iv r _ I3 rx ry rv q) fun _ s4 ⟨H4, I4, q4⟩ => ⟨σ, H4, I4, q4⟩
theorem RelWs.setAt {K : PySem.W.Frag} {F : Hp} {w : W} {u : V} (ru : RelW K F w u) : ∀ {ws : List W} {vs : List V} (i : Nat), RelWs K F ws vs → RelWs K F (ws.set i w) (vs.set i u)
  | [], _, _, h => by
    rw [show _ = [] from h]
    exact rfl
  | x :: ws, _, 0, ⟨v, r, e, h, t⟩ => by
    rw [e]
    exact .cons ru t
  | x :: ws, _, i + 1, ⟨v, r, e, h, t⟩ => by
    rw [e]
    exact .cons h (RelWs.setAt ru i t)
theorem s_iset (C : Ctx g k X Wx) {o i value : Expr} {pos pos' : Pos} {to ti tv : TEW} (ho : PE X o (lowE X.K Wx to)) (hi : PE X i (lowE X.K Wx ti)) (hv : PE X value (lowE X.K Wx tv)) (hs : swapsWith value (some (.Subscript o i pos')) pos.line X.env = pure false) :
    PS X (.Assign [.Subscript o i pos'] value pos) (lowS X.K Wx fun D σ H => tv σ H (fun y H1 => to σ H1 (fun x H2 => ti σ H2 (fun z H3 =>
      (∃ a kvs j, x = .ref a ∧ H3 a = some (.dct kvs) ∧ keyW z = some j ∧ kvs.length < sizeLine ∧ D.nx σ (updW H3 a (.dct (putKW kvs j y)))) ∨
      ∃ a xs j n, x = .ref a ∧ H3 a = some (.lst xs) ∧ z = .int j ∧ ixN xs.length j = some n ∧ D.nx σ (updW H3 a (.lst (xs.set n y)))) fun C H1 => D.ex C σ H1) fun C H1 => D.ex C σ H1) fun C H1 => D.ex C σ H1) :=
  PS.imp (ps_iset C.hu ho hi hv hs) fun D σ H ⟨F, σ', H', D', rs, ab, d, h⟩ => ⟨F, σ', H', _, _, rs, ab, fun y H1' hy F1 v H1 s1 ry ab1 => ⟨F1, σ', H1', _, _, rs.mono s1, ab1, fun x H2' hx F2 u H2 s2 rx ab2 =>
    ⟨F2, σ', H2', _, _, rs.mono (s1.trans s2), ab2, fun z H3' hz F3 w H3 s3 rz ab3 => by
      have s := (s1.trans s2).trans s3
      have ry3 := RelW.mono (s2.trans s3) y ry
      rcases hz with ⟨a, kvs, j, rfl, h1, h2, h3, h4⟩ | ⟨a, xs, j, n, rfl, h1, rfl, h2, h4⟩
      · obtain ⟨vs, e, rk⟩ := ab3.dict h1
        exact .inl ⟨a, _, rx, .inl ⟨vs, j, e, keyW_low rz h2, by rw [← rk.length]; exact h3, rfl⟩, d.nx _ _ h4 F3 _ _ s (rs.mono s) (ab3.write h1 ⟨_, rfl, rk.put j ry3⟩)⟩
      · obtain ⟨vs, e, rk⟩ := ab3.list h1
        exact .inr ⟨a, vs, j, n, rx, rz, e, by rw [← rk.length]; exact h2, d.nx _ _ h4 F3 _ _ s (rs.mono s) (ab3.write (w := .lst (xs.set n y)) h1 ⟨_, rfl, rk.setAt ry3 n⟩)⟩, (d.er rs).mono (s1.trans s2), hx⟩, (d.er rs).mono s1, hy⟩, d.er rs, h⟩
/-! loops -/
theorem s_for {x : Str} {i : Nat} {it : Expr} {body : List Stmt} {pos px : Pos} {ti : TIW} {tb : TSW} (hp : PassesOwn (model X.prog X.w) X.A X.env X.xe) (hc : X.calm = true) (hi : PI X (.Name x px) it (lowI X.K Wx ti)) (hg : PG X (.Name x px) (gName i)) (hb : PSs X body (lowS X.K Wx tb)) (hs : ∀ z, foldedSetIterable it X.env z = pure z) :
    PS X (.For (.Name x px) it body [] pos) (lowS X.K Wx fun D σ H => ti σ H (fun xs stay H1 => loopW stay i tb D xs σ H1) fun C H1 => D.ex C σ H1) :=
  PS.imp (ps_for hp hc hi hg hb hs) fun D σ H ⟨F, σ', H', D', rs, ab, d, h⟩ => by
    refine ⟨F, σ', H', _, _, rs, ab, fun items stay H1' hx F1 H1 J s1 ab1 wk => ?_, d.er rs, h⟩
    refine ⟨fun j m σm Hm => m = items.length - j ∧ j ≤ items.length ∧ ∃ F2 σ2 Hw2, Same F1 F2 ∧ RelS X.K F2 σ2 σm ∧ AbH X.K F2 Hw2 Hm ∧ loopW stay i tb D' (items.drop j) σ2 Hw2,
      ⟨items.length, by simp, Nat.zero_le _, F1, σ', H1', Same.refl _, rs.mono s1, ab1, hx⟩, ?_⟩
    rintro j m σm Hm ⟨rfl, hj, F2, σ2, Hw2, s2, rs2, ab2, hgo⟩
    by_cases hlt : j < items.length
    · have ed : items.drop j = items[j] :: items.drop (j + 1) := List.drop_eq_getElem_cons hlt
      rw [ed] at hgo
      obtain ⟨hst, hgo⟩ := hgo
      obtain ⟨w1, w2⟩ := wk F2 Hw2 Hm s2 ab2 hst
      obtain ⟨g1, g2⟩ := w1 j items[j] (List.getElem?_eq_getElem hlt)
      refine .inr ⟨g1, fun σn Hn => ∃ F3 σ3 Hw3, Same F1 F3 ∧ RelS X.K F3 σ3 σn ∧ AbH X.K F3 Hw3 Hn ∧ loopW stay i tb D' (items.drop (j + 1)) σ3 Hw3, fun σn Hn hn => ⟨items.length - (j + 1), by omega, rfl, hlt, hn⟩, fun v Hy hy => ?_⟩
      obtain ⟨eH, rx⟩ := g2 v Hy hy
      subst eH
      refine ⟨F2, _, Hw2, { D' with nx := loopW stay i tb D' (items.drop (j + 1)), ct := loopW stay i tb D' (items.drop (j + 1)), bk := D'.nx }, rs2.set rx i, ab2, ⟨fun a b c F3 σ3 H3 s3 r3 ab3 => ?_, d.rt.mono (s1.trans s2), fun a b c F3 σ3 H3 s3 r3 ab3 => ?_, fun a b c F3 σ3 H3 s3 r3 ab3 => ?_, fun C a b c F3 σ3 H3 s3 r3 ab3 => ?_⟩, hgo⟩
      · exact ⟨F3, a, b, s2.trans s3, r3, ab3, c⟩
      · exact d.nx a b c F3 σ3 H3 ((s1.trans s2).trans s3) r3 ab3
      · exact ⟨F3, a, b, s2.trans s3, r3, ab3, c⟩
      · exact d.ex C a b c F3 σ3 H3 ((s1.trans s2).trans s3) r3 ab3
    · have ej : j = items.length := by omega
      subst ej
      rw [List.drop_length] at hgo
      obtain ⟨hst, hq⟩ := hgo
      obtain ⟨w1, w2⟩ := wk F2 Hw2 Hm s2 ab2 hst
      exact .inl ⟨w2, d.nx _ _ hq F2 _ _ (s1.trans s2) rs2 ab2⟩
theorem s_whl {c : Expr} {body : List Stmt} {pos : Pos} {tc : TTW} {tb : TSW} (hp : PassesOwn (model X.prog X.w) X.A X.env X.xe) (hc : PT X c (lowT X.K Wx tc)) (hb : PSs X body (lowS X.K Wx tb)) :
    PS X (.While c body [] pos) (lowS X.K Wx fun D σ H => ∃ n, whileW tc tb D n σ H) :=
  PS.imp (ps_while hp hc hb) fun D σ H ⟨F, σ', H', D', rs, ab, d, n, h⟩ => by
    refine ⟨fun m σm Hm => ∃ F2 σ2 Hw2, Same F F2 ∧ RelS X.K F2 σ2 σm ∧ AbH X.K F2 Hw2 Hm ∧ whileW tc tb D' m σ2 Hw2, ⟨n, F, σ', H', Same.refl _, rs, ab, h⟩, ?_⟩
    rintro m σm Hm ⟨F2, σ2, Hw2, s2, rs2, ab2, hw⟩
    cases m with
    | zero => exact hw.elim
    | succ m =>
      refine ⟨F2, σ2, Hw2, _, _, rs2, ab2, fun b H3' hb F3 H3 s3 ab3 => ?_, (d.mono s2).er rs2, hw⟩
      cases b with
      | true =>
        rw [if_pos rfl] at hb ⊢
        refine ⟨fun σn Hn => ∃ F3 σ3 Hw3, Same F F3 ∧ RelS X.K F3 σ3 σn ∧ AbH X.K F3 Hw3 Hn ∧ whileW tc tb D' m σ3 Hw3, fun σn Hn hn => ⟨m, Nat.lt_succ_self m, hn⟩, ?_⟩
        refine ⟨F3, σ2, H3', { D' with nx := whileW tc tb D' m, ct := whileW tc tb D' m, bk := D'.nx }, rs2.mono s3, ab3, ⟨fun a b c F4 σ4 H4 s4 r4 ab4 => ?_, d.rt.mono (s2.trans s3), fun a b c F4 σ4 H4 s4 r4 ab4 => ?_, fun a b c F4 σ4 H4 s4 r4 ab4 => ?_, fun C a b c F4 σ4 H4 s4 r4 ab4 => ?_⟩, hb⟩
        · exact ⟨F4, a, b, (s2.trans s3).trans s4, r4, ab4, c⟩
        · exact d.nx a b c F4 σ4 H4 ((s2.trans s3).trans s4) r4 ab4
        · exact ⟨F4, a, b, (s2.trans s3).trans s4, r4, ab4, c⟩
        · exact d.ex C a b c F4 σ4 H4 ((s2.trans s3).trans s4) r4 ab4
      | false =>
        rw [if_neg Bool.false_ne_true] at hb ⊢
        exact d.nx σ2 H3' hb F3 _ H3 (s2.trans s3) (rs2.mono s3) ab3
/-! raise, try -/
theorem s_raise (C : Ctx g k X Wx) {x m : Str} {j : Nat} {p p2 pos pos2 : Pos} (hg : Gl X x) (hdb : (x == ("__debug__" : Str)) = false) : PS X (.Raise (some (.Call (.Name x p) [.Constant (.str m) j p2] [] pos)) none pos2) (lowS X.K Wx fun D σ H => ∃ C, g.exc x C ∧ D.ex C σ H) := by
  refine ⟨fun pins s σ H D I h => ?_⟩
  obtain ⟨F, σ', H', D', rs, ab, d, A, hx, h⟩ := h
  obtain ⟨e1, e2, e3, e4, e5⟩ := C.says.exc x A hx
  exact (ps_raise C.calm C.takes (pmk_own PySem.F.excBase_ValueError e2 e1 e3 (raises_own e4 e5) hg hdb)).run pins s σ H D I (d.ex A σ' H' h F σ H (Same.refl _) rs ab)
theorem s_try {x : Str} {body : List Stmt} {b0 : Stmt} {np pos pos' : Pos} {tb : TSW} {w : W} {v : V} (hs : X.stack = X.env :: X.outer) (hf : X.env.frame = some X.env.locals) (hgx : Gl X x) (hdb : (x == ("__debug__" : Str)) = false) (S : Says g k X) (tk : Takes X Wx)
    (hb : ∀ (Wy : WX) (pn : List (Addr × Obj)) (xe : Value → Shared → Prop), Takes (X.tr pn xe) Wy → PassesOwn (model X.prog X.w) X.A X.env xe → PSs (X.tr pn xe) body (lowS X.K Wy tb))
    (hsu : ∀ Y, PS Y b0 (fun D _ H => D.rt v H)) (rv : ∀ F, RelW X.K F w v) :
    PS X (.Try body [.ExceptHandler (some (.Name x np)) none [b0] pos'] [] [] pos)
      (lowS X.K Wx fun D σ H => (∃ C b, g.exm C x b) ∧ tb { D with ex := fun C σ1 H1 => ∃ k, g.exm C x k ∧ (k = true → D.rt w H1) ∧ (k = false → D.ex C σ1 H1) } σ H) := by
  refine ⟨fun pins s σ H D I h => ?_⟩
  obtain ⟨F, σ', H', D', rs, ab, d, ⟨C0, k0, h0⟩, h⟩ := h
  obtain ⟨c, ec, _⟩ := S.exm C0 x k0 h0
  refine (ps_try_only hs hf ⟨hgx, hdb, .inl ec⟩ tk (fun Wy pn xe t p => hb Wy pn xe t p) (fun a oe cls dd pn z zz => pss_one (hsu _))).run pins s σ H D I ?_
  refine ⟨F, σ', H', { D' with ex := fun C σ1 H1 => ∃ k, g.exm C x k ∧ (k = true → D'.rt w H1) ∧ (k = false → D'.ex C σ1 H1) }, rs, ab, ⟨d.nx, d.rt, d.bk, d.ct, fun C a b hx F1 σ1 H1 s1 r1 ab1 => ?_⟩, h⟩
  obtain ⟨kk, hk, h1, h2⟩ := hx
  obtain ⟨c2, ec2, hm⟩ := S.exm C x kk hk
  have e : c2 = c := by
    rw [ec] at ec2
    exact (Value.ref.inj (Option.some.inj ec2)).symm
  rw [e] at hm
  exact ⟨kk, hm, fun hkk A hA => (d.rt.mono s1).at ab1 (rv F1) (h1 hkk), fun hkk => d.ex C a b (h2 hkk) F1 σ1 H1 s1 r1 ab1⟩
/-! a, b, c = e -/
theorem s_unp {e : Expr} {targets : List Expr} {is : List Nat} {n : Nat} {pos p2 : Pos} {te : TEW} (he : PE X e (lowE X.K Wx te))
    (hg : PG X (.Tuple targets n p2) (gTup X.K is.length fun vs σ H Q => vs.length = is.length ∧ ∀ σ2, σ2 = ((is.zip vs).foldl (fun s p => s.set p.1 (some p.2)) σ) → Q σ2 H))
    (hs : swapsWithSole [.Tuple targets n p2] e pos.line X.env = pure false) (hw : swappedStores [.Tuple targets n p2] e X.env = pure none) :
    PS X (.Assign [.Tuple targets n p2] e pos) (lowS X.K Wx fun D σ H => te σ H (fun x H1 => ∃ ws, x = .tup ws ∧ ws.length = is.length ∧ D.nx (setAll is ws σ) H1) fun C H1 => D.ex C σ H1) :=
  PS.imp (ps_asg he hg hs hw rfl) fun D σ H ⟨F, σ', H', D', rs, ab, d, h⟩ => ⟨F, σ', H', _, _, rs, ab, fun x H1' hx F1 v H1 s1 rx ab1 => by
    obtain ⟨ws, rfl, hl, hn⟩ := hx
    obtain ⟨a, vs, e, q, t⟩ := rx
    refine ⟨a, vs, e, SqT.of (ab1.sub _ _ q), by rw [← t.length]; exact hl, by rw [← t.length]; exact hl, fun σ2 e2 => ?_⟩
    rw [e2]
    have gen : ∀ (is : List Nat) (ws : List W) (vs : List V) (a : Sw) (b : L2.St), RelWs X.K F1 ws vs → RelS X.K F1 a b → RelS X.K F1 (setAll is ws a) ((is.zip vs).foldl (fun s p => s.set p.1 (some p.2)) b) := by
      intro is
      induction is with
      | nil => intro ws vs a b _ r; exact r
      | cons i is ih =>
        intro ws vs a b t r
        cases ws with
        | nil =>
          rw [show vs = [] from t]
          exact r
        | cons w ws =>
          obtain ⟨u, vs', e, h1, h2⟩ := t
          rw [e]
          exact ih ws vs' _ _ h2 (r.set h1 i)
    exact d.nx _ H1' hn F1 _ H1 s1 (gen is ws vs _ _ t (rs.mono s1)) ab1, d.er rs, h⟩
end
end WL

/-! ## The text read into the small syntax, and that the reading is right: expressions -/
namespace WL
open PySem L2

def guardO {α : Type} (c : Bool) (a : Option α) : Option α := match c with
  | true => a
  | false => none
theorem guardO_some {α : Type} {c : Bool} {a : Option α} {b : α} (h : guardO c a = some b) : c = true ∧ a = some b := by
  cases c with
  | true => exact ⟨rfl, h⟩
  | false => cases h
def bind2 {α β γ : Type} (a : Option α) (b : Option β) (f : α → β → γ) : Option γ := match a, b with
  | some x, some y => some (f x y)
  | _, _ => none
theorem bind2_some {α β γ : Type} {a : Option α} {b : Option β} {f : α → β → γ} {c : γ} (h : bind2 a b f = some c) : ∃ x y, a = some x ∧ b = some y ∧ f x y = c := by
  cases a with
  | none => cases h
  | some x =>
    cases b with
    | none => cases h
    | some y => exact ⟨x, y, rfl, rfl, Option.some.inj h⟩
theorem map_some' {α β : Type} {a : Option α} {f : α → β} {c : β} (h : a.map f = some c) : ∃ x, a = some x ∧ f x = c := by
  cases a with
  | none => cases h
  | some x => exact ⟨x, rfl, Option.some.inj h⟩
theorem and_ok {a b : Bool} (h : (a && b) = true) : a = true ∧ b = true := Bool.and_eq_true_iff.mp h

def idx : List Str → Str → Option Nat
  | [], _ => none
  | y :: r, x => if y = x then some 0 else (idx r x).map (· + 1)
theorem idx_ok : ∀ {N : List Str} {x : Str} {i : Nat}, idx N x = some i → N[i]? = some x
  | [], _, _, h => by cases h
  | y :: r, x, i, h => by
    unfold idx at h
    split at h
    · rename_i e
      cases h
      rw [e]
      rfl
    · obtain ⟨j, hj, e⟩ := map_some' h
      rw [← e]
      show (y :: r)[j + 1]? = some x
      rw [List.getElem?_cons_succ]
      exact idx_ok hj
def okName (x : Str) : Bool := !(x == "__debug__") && (!(x == "__classdict__") && !(x == "__name__"))
theorem okName_ok {x : Str} (h : okName x = true) : (x == ("__debug__" : Str)) = false ∧ (x == ("__classdict__" : Str)) = false ∧ x ≠ "__name__" := by
  obtain ⟨h1, h2⟩ := and_ok h
  obtain ⟨h2, h3⟩ := and_ok h2
  refine ⟨by simpa using h1, by simpa using h2, fun e => ?_⟩
  rw [e] at h3
  cases h3
def glob (sc : Scope) (x : Str) : Bool := match sc.names.lookup x with
  | some .globalImplicit => okName x
  | _ => false
theorem glob_ok {sc : Scope} {X : Cx} {x : Str} (S : Sc sc X) (h : glob sc x = true) : Gl X x ∧ (x == ("__debug__" : Str)) = false := by
  unfold glob at h
  split at h
  · rename_i e
    exact ⟨S.gl e, (okName_ok h).1⟩
  · cases h
abbrev RE := Scope → Expr → Option CE
abbrev RT := Scope → Expr → Option CT
def cName (N : List Str) (sc : Scope) (x : Str) : Option CE := guardO (okName x) (match sc.names.lookup x with
  | some .local => (idx N x).map .var
  | some .cell => (idx N x).map .var
  | some .free => (idx N x).map .var
  | some .globalImplicit => some (.gint x)
  | _ => none)
def cA (rE : Expr → Option CE) : List Expr → Option CEs
  | [] => some .nil
  | e :: r => guardO (notStar e) (bind2 (rE e) (cA rE r) .cons)
def cBools (op : BoolOp) (rE : Expr → Option CE) : List Expr → Option CE
  | [] => none
  | [a] => rE a
  | a :: b :: r => bind2 (rE a) (cBools op rE (b :: r)) (match op with | .And => .andV | .Or => .orV)
def cTests (op : BoolOp) (rT : Expr → Option CT) : List Expr → Option CT
  | [] => none
  | [a] => rT a
  | a :: b :: r => bind2 (rT a) (cTests op rT (b :: r)) (match op with | .And => .ands | .Or => .ors)
def cO (rE : Expr → Option CE) : Option Expr → Option CO
  | none => some .no
  | some e => (rE e).map .so
def cI (rE : Expr → Option CE) (sc : Scope) (e : Expr) : Option CI := match e with
  | .Call (.Name x _) args [] _ => if x = "range" then guardO (glob sc x && args.all notStar) (match args with
      | [a] => (rE a).map .r1
      | [a, b] => bind2 (rE a) (rE b) .r2
      | [a, b, c] => bind2 (rE a) (bind2 (rE b) (rE c) Prod.mk) fun a p => .r3 a p.1 p.2
      | _ => none) else (rE e).map .ex
  | e => guardO (notSet e) ((rE e).map .ex)
/-- the own classes that are made -/
def madeNames : List Str := ["Folk", "Hand", "Offer"]
def rngOf : List Expr → Option (Str × Expr)
  | [.Call (.Name r _) [a] [] _] => some (r, a)
  | _ => none
def cCallN (rE : Expr → Option CE) (sc : Scope) (x : Str) (args : List Expr) : Option CE := guardO (glob sc x && args.all notStar) (
  if x = "isinstance" then (match args with
    | [a, .Name T _] => guardO (glob sc T) (bind2 (rE a) (tyOf T) .isi)
    | _ => none)
  else match (if x = "list" then rngOf args else none) with
    | some (r, a) => guardO (decide (r = "range") && (glob sc r && notStar a)) ((rE a).map .lrng)
    | none => match builtinIs x with
      | some _ => guardO (!args.isEmpty) ((cA rE args).map (.bcl x))
      | none => if decide (x ∈ madeNames) then guardO (!args.isEmpty) ((cA rE args).map (.mk x)) else (cA rE args).map (.call x))
def cMeth (rE : Expr → Option CE) (o : Expr) (m : Str) (apos pos : Pos) (args : List Expr) : Option CE := guardO (plainBase o && (args.all notStar && (decide (args.length < 30) && (apos.endLine == pos.line)))) (
  if m = "append" then (match args with
    | [e] => bind2 (rE o) (rE e) .app
    | _ => none)
  else if m = "extend" then (match args with
    | [e] => bind2 (rE o) (rE e) .ext
    | _ => none)
  else if m = "pop" then (match args with
    | [e] => bind2 (rE o) (rE e) .pop
    | _ => none)
  else if m = "get" then (match args with
    | [e] => bind2 (rE o) (rE e) .get1
    | [e, f] => bind2 (rE o) (bind2 (rE e) (rE f) Prod.mk) fun a p => .get2 a p.1 p.2
    | _ => none)
  else if m = "setdefault" then (match args with
    | [e, f] => bind2 (rE o) (bind2 (rE e) (rE f) Prod.mk) fun a p => .setd a p.1 p.2
    | _ => none)
  else bind2 (rE o) (cA rE args) fun a b => .mth a m b)
def cU (rT : Expr → Option CT) : List Expr → Option CU
  | [] => some .no
  | [t] => (rT t).map .so
  | _ => none
def cPs (rE : Expr → Option CE) : List (Option Expr) → List Expr → Option CPs
  | [], [] => some .nil
  | some k :: ks, v :: vs => bind2 (rE k) (bind2 (rE v) (cPs rE ks vs) Prod.mk) fun a p => .cons a p.1 p.2
  | _, _ => none
def isOne : Option Expr → Bool
  | some (.UnaryOp .USub (.Constant (.int 1) _ _) _) => true
  | _ => false
def cSub (rE : Expr → Option CE) (e : Expr) (s : Expr) : Option CE := match s with
  | .Slice lo hi none _ => bind2 (rE e) (bind2 (cO rE lo) (cO rE hi) Prod.mk) fun a p => .slc a p.1 p.2
  | .Slice none none st _ => guardO (isOne st) ((rE e).map .rev)
  | s => guardO (notSlice s) (bind2 (rE e) (rE s) .ix)
def cComp (N : List Str) (rE : RE) (rT : RT) (sc : Scope) (elt : Expr) (gens : List Comprehension) (scope : Scope) : Option CE := match gens with
  | [⟨.Name x _, it, ifs, 0⟩] => match idx N x with
    | some i => guardO (blkC N sc scope [(x, i)] && (notSet it && (match scope.names.lookup x with | some .local => true | _ => false)))
        (bind2 (cI (rE sc) sc it) (bind2 (rE scope elt) (cU (rT scope) ifs) Prod.mk) fun a p => .lcm p.1 i a p.2)
    | none => none
  | _ => none
def stepE (N : List Str) (rE : RE) (rT : RT) (sc : Scope) (e : Expr) : Option CE := match e with
  | .Constant c _ _ => (match c with
    | .none => some (.lit .non)
    | .bool b => some (.lit (.bl b))
    | .int i => some (.lit (.int i))
    | .str x => some (.lit (.str x))
    | _ => none)
  | .Name x _ => cName N sc x
  | .List es _ => (cA (rE sc) es).map .lst
  | .Tuple es _ _ => (cA (rE sc) es).map .tup
  | .BinOp a op b _ => bind2 (rE sc a) (rE sc b) (.bin op)
  | .UnaryOp op a _ => (match op with
    | .USub => (rE sc a).map .neg
    | .Not => (rE sc a).map .notV
    | _ => none)
  | .Compare a ops bs _ => (match ops, bs with
    | [op], [b] => guardO (!behindInMarks op b) (bind2 (rE sc a) (rE sc b) (.cmp op))
    | [o1, o2], [b, c] => guardO (!lastMarks [o1, o2] [b, c]) (bind2 (rE sc a) (bind2 (rE sc b) (rE sc c) Prod.mk) fun a p => .chn o1 o2 a p.1 p.2)
    | _, _ => none)
  | .BoolOp op vs _ => cBools op (rE sc) vs
  | .IfExp t a b _ => bind2 (rT sc t) (bind2 (rE sc a) (rE sc b) Prod.mk) fun t p => .ife t p.1 p.2
  | .Attribute o f _ => guardO (plainBase o) ((rE sc o).map (.fld · f))
  | .Subscript e s _ => cSub (rE sc) e s
  | .Call f args kws pos => (match kws with
    | [] => (match f with
      | .Name x _ => cCallN (rE sc) sc x args
      | .Attribute o m apos => cMeth (rE sc) o m apos pos args
      | _ => none)
    | _ => none)
  | .ListComp elt gens scope _ => cComp N rE rT sc elt gens scope
  | .Dict keys values _ => (match keys, values with
    | [], [] => some .dnew
    | k :: ks, vs => guardO ((k :: ks).all (·.isSome) && (decide ((k :: ks).length = vs.length) && decide ((k :: ks).length ≤ 15))) ((cPs (rE sc) (k :: ks) vs).map .dct)
    | _, _ => none)
  | _ => none
def stepT (rE : RE) (rT : RT) (sc : Scope) (e : Expr) : Option CT := match e with
  | .BoolOp op vs _ => cTests op (rT sc) vs
  | .UnaryOp op a _ => (match op with
    | .Not => (rT sc a).map .not
    | _ => none)
  | .Compare a ops bs _ => (match ops, bs with
    | [op], [b] => guardO (!behindInMarks op b) (bind2 (rE sc a) (rE sc b) fun x y => .tru (.cmp op x y))
    | [o1, o2], [b, c] => guardO (!lastMarks [o1, o2] [b, c]) (bind2 (rE sc a) (bind2 (rE sc b) (rE sc c) Prod.mk) fun a p => .tru (.chn o1 o2 a p.1 p.2))
    | _, _ => none)
  | e => guardO (plainTest e) ((rE sc e).map .tru)
def cET (N : List Str) : Nat → RE × RT
  | 0 => (fun _ _ => none, fun _ _ => none)
  | n + 1 => (stepE N (cET N n).1 (cET N n).2, stepT (cET N n).1 (cET N n).2)

/-! ### the reading is right -/
def SE (g : Gm) (k : Nat) (N : List Str) (rE : RE) : Prop := ∀ sc e c X Wx, rE sc e = some c → Ctx g k X Wx → Sc sc X → X.N = N → PE X e (lowE X.K Wx (denE g c))
def STt (g : Gm) (k : Nat) (N : List Str) (rT : RT) : Prop := ∀ sc e c X Wx, rT sc e = some c → Ctx g k X Wx → Sc sc X → X.N = N → PT X e (lowT X.K Wx (denT g c))
section
variable {g : Gm} {k : Nat} {N : List Str} {rE : RE} {rT : RT} {sc : Scope} {X : Cx} {Wx : WX}
theorem cName_ok {x : Str} {c : CE} {pos : Pos} (h : cName N sc x = some c) (C : Ctx g k X Wx) (S : Sc sc X) (hN : X.N = N) : PE X (.Name x pos) (lowE X.K Wx (denE g c)) := by
  obtain ⟨ho, h⟩ := guardO_some h
  obtain ⟨o1, o2, o3⟩ := okName_ok ho
  subst hN
  split at h
  · rename_i e
    obtain ⟨i, hi, rfl⟩ := map_some' h
    exact w_var (idx_ok hi) (.inl (S.loc x e)) o1 o2
  · rename_i e
    obtain ⟨i, hi, rfl⟩ := map_some' h
    exact w_var (idx_ok hi) (.inr (.inl (S.cell x e))) o1 o2
  · rename_i e
    obtain ⟨i, hi, rfl⟩ := map_some' h
    exact w_var (idx_ok hi) (.inr (S.free x e)) o1 o2
  · rename_i e
    cases h
    exact w_gint C.says (S.gl e) o1
  · cases h
theorem cA_ok (hE : ∀ e c, rE sc e = some c → PE X e (lowE X.K Wx (denE g c))) : ∀ {es : List Expr} {cs : CEs}, cA (rE sc) es = some cs → PA X es (lowA X.K Wx (denA g cs)) ∧ es.all notStar = true
  | [], cs, h => by
    cases h
    exact ⟨w_nil, rfl⟩
  | e :: es, cs, h => by
    obtain ⟨hs, h⟩ := guardO_some h
    obtain ⟨a, b, h1, h2, rfl⟩ := bind2_some h
    obtain ⟨h3, h4⟩ := cA_ok hE h2
    exact ⟨w_cons (hE e a h1) h3 hs, by rw [List.all_cons, hs, h4]; rfl⟩
theorem cBools_ok (hE : ∀ e c, rE sc e = some c → PE X e (lowE X.K Wx (denE g c))) {op : BoolOp} {pos : Pos} : ∀ {es : List Expr} {c : CE}, cBools op (rE sc) es = some c → PE X (.BoolOp op es pos) (lowE X.K Wx (denE g c))
  | [], c, h => by cases h
  | [a], c, h => pe_one (hE a c h)
  | a :: b :: r, c, h => by
    obtain ⟨x, y, h1, h2, rfl⟩ := bind2_some h
    have h3 := cBools_ok hE (pos := pos) h2
    cases op with
    | And => exact w_and (hE a x h1) h3
    | Or => exact w_or (hE a x h1) h3
theorem cTests_ok (hT : ∀ e c, rT sc e = some c → PT X e (lowT X.K Wx (denT g c))) {op : BoolOp} {pos : Pos} : ∀ {es : List Expr} {c : CT}, cTests op (rT sc) es = some c → PW X (.BoolOp op es pos) (lowT X.K Wx (denT g c))
  | [], c, h => by cases h
  | [a], c, h => by
    cases op with
    | And => exact pw_and1 (hT a c h)
    | Or => exact pw_or1 (hT a c h)
  | a :: b :: r, c, h => by
    obtain ⟨x, y, h1, h2, rfl⟩ := bind2_some h
    have h3 := cTests_ok hT (pos := pos) h2
    cases op with
    | And => exact w_andT (hT a x h1) h3
    | Or => exact w_orT (hT a x h1) h3
theorem cO_ok (hE : ∀ e c, rE sc e = some c → PE X e (lowE X.K Wx (denE g c))) {o : Option Expr} {c : CO} (h : cO (rE sc) o = some c) : PO X o (lowO X.K Wx (denO g c)) := by
  cases o with
  | none => cases h; exact w_no
  | some e =>
    obtain ⟨x, h1, rfl⟩ := map_some' h
    exact w_so (hE e x h1)
theorem cI_ok (hE : ∀ e c, rE sc e = some c → PE X e (lowE X.K Wx (denE g c))) (C : Ctx g k X Wx) (S : Sc sc X) {tg e : Expr} {c : CI} (h : cI (rE sc) sc e = some c) : PI X tg e (lowI X.K Wx (denI g c)) := by
  unfold cI at h
  split at h
  · rename_i x p args pos
    split at h
    · rename_i ex
      subst ex
      obtain ⟨h0, h⟩ := guardO_some h
      obtain ⟨hg, hs⟩ := and_ok h0
      obtain ⟨hg, _⟩ := glob_ok S hg
      split at h
      · obtain ⟨a, h1, rfl⟩ := map_some' h
        simp only [List.all_cons, List.all_nil, Bool.and_true] at hs
        exact w_r1 C hg hs (hE _ a h1)
      · obtain ⟨a, b, h1, h2, rfl⟩ := bind2_some h
        simp only [List.all_cons, List.all_nil, Bool.and_true, Bool.and_eq_true] at hs
        exact w_r2 C hg hs.1 hs.2 (hE _ a h1) (hE _ b h2)
      · obtain ⟨a, p, h1, h2, rfl⟩ := bind2_some h
        obtain ⟨b, c, h3, h4, rfl⟩ := bind2_some h2
        simp only [List.all_cons, List.all_nil, Bool.and_true, Bool.and_eq_true] at hs
        exact w_r3 C hg hs.1 hs.2.1 hs.2.2 (hE _ a h1) (hE _ b h3) (hE _ c h4)
      · cases h
    · obtain ⟨a, h1, rfl⟩ := map_some' h
      exact w_it (hE _ a h1)
  · obtain ⟨_, h⟩ := guardO_some h
    obtain ⟨a, h1, rfl⟩ := map_some' h
    exact w_it (hE _ a h1)
theorem rngOf_some {args : List Expr} {r : Str} {a : Expr} (h : rngOf args = some (r, a)) : ∃ p pos, args = [.Call (.Name r p) [a] [] pos] := by
  unfold rngOf at h
  split at h
  · cases h; exact ⟨_, _, rfl⟩
  · cases h
theorem cCallN_ok (hE : ∀ e c, rE sc e = some c → PE X e (lowE X.K Wx (denE g c))) (C : Ctx g k X Wx) (S : Sc sc X) {x : Str} {p pos : Pos} {args : List Expr} {c : CE} (h : cCallN (rE sc) sc x args = some c) : PE X (.Call (.Name x p) args [] pos) (lowE X.K Wx (denE g c)) := by
  unfold cCallN at h
  have hq := guardO_some h
  clear h
  obtain ⟨h0, h⟩ := hq
  obtain ⟨hg, hs⟩ := and_ok h0
  obtain ⟨hg, hdb⟩ := glob_ok S hg
  split at h
  · rename_i ex
    subst ex
    split at h
    · obtain ⟨h1, h⟩ := guardO_some h
      obtain ⟨a, T, h2, h3, rfl⟩ := bind2_some h
      obtain ⟨g1, d1⟩ := glob_ok S h1
      simp only [List.all_cons, List.all_nil, Bool.and_true, Bool.and_eq_true] at hs
      exact w_isi C h3 hg g1 d1 hs.1 (hE _ a h2)
    · cases h
  · split at h
    · rename_i r a er
      obtain ⟨h1, h⟩ := guardO_some h
      obtain ⟨h1, h2⟩ := and_ok h1
      obtain ⟨h2, h3⟩ := and_ok h2
      obtain ⟨y, h4, rfl⟩ := map_some' h
      split at er
      · rename_i ex
        obtain ⟨p2, pos2, rfl⟩ := rngOf_some er
        have e2 : r = "range" := of_decide_eq_true h1
        subst e2
        subst ex
        exact w_lrng C hg (glob_ok S h2).1 h3 (hE _ y h4)
      · cases er
    · split at h
      · rename_i u eu
        obtain ⟨hne, h⟩ := guardO_some h
        obtain ⟨cs, h1, rfl⟩ := map_some' h
        cases args with
        | nil => cases hne
        | cons e es => exact w_bcl C eu hg hdb hs (cA_ok hE h1).1
      · split at h
        · obtain ⟨hne, h⟩ := guardO_some h
          obtain ⟨cs, h1, rfl⟩ := map_some' h
          cases args with
          | nil => cases hne
          | cons e es => exact w_mk C hg hdb hs (cA_ok hE h1).1
        · obtain ⟨cs, h1, rfl⟩ := map_some' h
          cases args with
          | nil =>
            cases h1
            exact w_call0 C hg hdb
          | cons e es => exact w_call C hg hdb hs (cA_ok hE h1).1
theorem cMeth_ok (hE : ∀ e c, rE sc e = some c → PE X e (lowE X.K Wx (denE g c))) (C : Ctx g k X Wx) {o : Expr} {m : Str} {apos pos : Pos} {args : List Expr} {c : CE} (h : cMeth (rE sc) o m apos pos args = some c) :
    PE X (.Call (.Attribute o m apos) args [] pos) (lowE X.K Wx (denE g c)) := by
  unfold cMeth at h
  have hq := guardO_some h
  clear h
  obtain ⟨h0, h⟩ := hq
  obtain ⟨hb, h0⟩ := and_ok h0
  obtain ⟨hs, h0⟩ := and_ok h0
  obtain ⟨hn, hl⟩ := and_ok h0
  have hn := of_decide_eq_true hn
  split at h
  · rename_i em
    subst em
    split at h
    · obtain ⟨a, b, h1, h2, rfl⟩ := bind2_some h
      simp only [List.all_cons, List.all_nil, Bool.and_true] at hs
      exact w_app (hE _ a h1) (hE _ b h2) hb hs hl
    · cases h
  split at h
  · rename_i em
    subst em
    split at h
    · obtain ⟨a, b, h1, h2, rfl⟩ := bind2_some h
      simp only [List.all_cons, List.all_nil, Bool.and_true] at hs
      exact w_ext (hE _ a h1) (hE _ b h2) hb hs hl
    · cases h
  split at h
  · rename_i em
    subst em
    split at h
    · obtain ⟨a, b, h1, h2, rfl⟩ := bind2_some h
      simp only [List.all_cons, List.all_nil, Bool.and_true] at hs
      exact w_pop (hE _ a h1) (hE _ b h2) hb hs hl
    · cases h
  split at h
  · rename_i em
    subst em
    split at h
    · obtain ⟨a, b, h1, h2, rfl⟩ := bind2_some h
      simp only [List.all_cons, List.all_nil, Bool.and_true] at hs
      exact w_get1 C (hE _ a h1) (hE _ b h2) hb hs hl
    · obtain ⟨a, p, h1, h2, rfl⟩ := bind2_some h
      obtain ⟨b, d, h3, h4, rfl⟩ := bind2_some h2
      simp only [List.all_cons, List.all_nil, Bool.and_true, Bool.and_eq_true] at hs
      exact w_get2 C (hE _ a h1) (hE _ b h3) (hE _ d h4) hb hs.1 hs.2 hl
    · cases h
  split at h
  · rename_i em
    subst em
    split at h
    · obtain ⟨a, p, h1, h2, rfl⟩ := bind2_some h
      obtain ⟨b, d, h3, h4, rfl⟩ := bind2_some h2
      simp only [List.all_cons, List.all_nil, Bool.and_true, Bool.and_eq_true] at hs
      exact w_setd C (hE _ a h1) (hE _ b h3) (hE _ d h4) hb hs.1 hs.2 hl
    · cases h
  · obtain ⟨a, cs, h1, h2, rfl⟩ := bind2_some h
    cases args with
    | nil =>
      cases h2
      exact w_mth0 C (hE _ a h1) hb hl
    | cons e es => exact w_mth C (hE _ a h1) (cA_ok hE h2).1 hb hs hn hl
theorem isOne_ok {st : Option Expr} (h : isOne st = true) : ∃ n p1 p2, st = some (.UnaryOp .USub (.Constant (.int 1) n p1) p2) := by
  unfold isOne at h
  split at h
  · exact ⟨_, _, _, rfl⟩
  · cases h
theorem cSub_ok (hE : ∀ e c, rE sc e = some c → PE X e (lowE X.K Wx (denE g c))) (C : Ctx g k X Wx) {e s : Expr} {pos : Pos} {c : CE} (h : cSub (rE sc) e s = some c) : PE X (.Subscript e s pos) (lowE X.K Wx (denE g c)) := by
  unfold cSub at h
  split at h
  · obtain ⟨a, p, h1, h2, rfl⟩ := bind2_some h
    obtain ⟨b, d, h3, h4, rfl⟩ := bind2_some h2
    exact w_slc (hE _ a h1) (cO_ok hE h3) (cO_ok hE h4)
  · obtain ⟨h1, h⟩ := guardO_some h
    obtain ⟨a, h2, rfl⟩ := map_some' h
    obtain ⟨n, p1, p2, rfl⟩ := isOne_ok h1
    exact w_rev (hE _ a h2)
  · obtain ⟨h1, h⟩ := guardO_some h
    obtain ⟨a, b, h2, h3, rfl⟩ := bind2_some h
    exact w_ix C (hE _ a h2) (hE _ b h3) h1
theorem cPs_ok (hE : ∀ e c, rE sc e = some c → PE X e (lowE X.K Wx (denE g c))) {pos : Pos} : ∀ {ks : List (Option Expr)} {vs : List Expr} {c : CPs}, cPs (rE sc) ks vs = some c → PPs X pos ks vs (trsOf X.K Wx g c)
  | [], [], c, h => by
    cases h
    exact pps_nil
  | some kx :: ks, v :: vs, c, h => by
    obtain ⟨a, p, h1, h2, rfl⟩ := bind2_some h
    obtain ⟨b, d, h3, h4, rfl⟩ := bind2_some h2
    exact pps_cons (hE _ a h1) (hE _ b h3) (cPs_ok hE h4)
  | [], _ :: _, c, h => by cases h
  | none :: _, _, c, h => by cases h
  | some _ :: _, [], c, h => by cases h
end
end WL

/-! ## The reading is right: all expressions; statements; defs -/
namespace WL
open PySem L2
section
variable {g : Gm} {k : Nat} {N : List Str} {rE : RE} {rT : RT} {sc : Scope} {X : Cx} {Wx : WX}
/-- the scope of a comprehension's block -/
theorem lookup_relab {env : Env} : ∀ {names : List (Str × NameKind)} {x : Str} {kd : NameKind}, names.lookup x = some kd →
    (names.map fun (n, k) => if (k == NameKind.free && env.scope.kind == .function && env.kindOf n == some .cell) then (n, NameKind.cell) else (n, k)).lookup x = some kd ∨
      (kd = .free ∧ (names.map fun (n, k) => if (k == NameKind.free && env.scope.kind == .function && env.kindOf n == some .cell) then (n, NameKind.cell) else (n, k)).lookup x = some .cell)
  | [], _, _, h => by simp at h
  | (n, kn) :: r, x, kd, h => by
    rw [List.map_cons, List.lookup_cons] at *
    cases hx : x == n with
    | true =>
      simp only [hx] at h
      cases h
      by_cases hc : (kn == NameKind.free && env.scope.kind == .function && env.kindOf n == some .cell) = true
      · rw [if_pos hc]
        refine .inr ⟨?_, by simp [hx]⟩
        obtain ⟨h1, _⟩ := Bool.and_eq_true_iff.mp (Bool.and_eq_true_iff.mp hc).1
        exact eq_of_beq h1
      · rw [if_neg hc]
        exact .inl (by simp [hx])
    | false =>
      simp only [hx] at h
      have ih := lookup_relab (env := env) (names := r) h
      by_cases hc : (kn == NameKind.free && env.scope.kind == .function && env.kindOf n == some .cell) = true
      · rw [if_pos hc]
        simp only [hx]
        exact ih
      · rw [if_neg hc]
        simp only [hx]
        exact ih
theorem sc_blk {scope : Scope} {s : Shared} {H : Hp} {A : Addr} {cl : List (Str × Addr)} {fp : List Addr} : Sc scope (X.blk s H scope (compEnvC scope cl A X.env) fp) := by
  have gen : ∀ x kd, scope.names.lookup x = some kd → (X.blk s H scope (compEnvC scope cl A X.env) fp).env.scope.names.lookup x = some kd ∨ (kd = .free ∧ (X.blk s H scope (compEnvC scope cl A X.env) fp).env.scope.names.lookup x = some .cell) :=
    fun x kd h => lookup_relab (env := X.env) h
  refine ⟨fun x h => ?_, fun x h => ?_, fun x h => ?_, fun x h => ?_⟩
  · rcases gen x _ h with z | ⟨z, _⟩
    · exact z
    · cases z
  · rcases gen x _ h with z | ⟨z, _⟩
    · exact z
    · cases z
  · rcases gen x _ h with z | ⟨_, z⟩
    · exact .inr z
    · exact .inl z
  · rcases gen x _ h with z | ⟨z, _⟩
    · exact z
    · cases z
theorem ctx_blk (C : Ctx g k X Wx) {scope : Scope} {s : Shared} {H : Hp} {env : Env} {fp : List Addr} : Ctx g k (X.blk s H scope env fp) (fun _ _ _ _ => False) :=
  ⟨⟨C.says.fn, C.says.mth, C.says.made, C.says.fld, C.says.int, C.says.exc, C.says.exm⟩, C.free, C.room, C.calm, C.nd, takes0⟩
theorem blk_ok {scope : Scope} {own : List (Str × Nat)} (S : Sc sc X) (h : blkC N sc scope own = true) (hN : X.N = N) : BlkOk X.N X.env.scope scope own := by
  subst hN
  obtain ⟨h1, h2, h3, h4, h5⟩ := blkOk_by h
  exact ⟨h1, h2, h3, fun y hy e => (h4 y hy e).elim (fun z => .inl (S.cell _ z)) fun z => S.free _ z, h5⟩
theorem cComp_parts (hE : SE g k N rE) (hT : STt g k N rT) (C : Ctx g k X Wx) (S : Sc sc X) (hN : X.N = N) {elt : Expr} {gens : List Comprehension} {scope : Scope} {c : CE} (h : cComp N rE rT sc elt gens scope = some c) :
    ∃ x px it ifs i ti tt te, gens = [⟨.Name x px, it, ifs, 0⟩] ∧ PI X (.Name x px) it (lowI X.K Wx ti) ∧ BlkOk X.N X.env.scope scope [(x, i)] ∧
      (∀ (s : Shared) (H : Hp) (A : Addr) (cl : List (Str × Addr)) (fp : List Addr), PG (X.blk s H scope (compEnvC scope cl A X.env) fp) (.Name x px) (gName i)) ∧
      (∀ (s : Shared) (H : Hp) (A : Addr) (cl : List (Str × Addr)) (fp : List Addr), PTs (X.blk s H scope (compEnvC scope cl A X.env) fp) ifs (lowT X.K (fun _ _ _ _ => False) tt)) ∧
      (∀ (s : Shared) (H : Hp) (A : Addr) (cl : List (Str × Addr)) (fp : List Addr), PE (X.blk s H scope (compEnvC scope cl A X.env) fp) elt (lowE X.K (fun _ _ _ _ => False) te)) ∧ (∀ z, foldedSetIterable it X.env z = pure z) ∧ denE g c = compW i ti tt te := by
  unfold cComp at h
  split at h
  · rename_i x px it ifs
    split at h
    · rename_i i hi
      obtain ⟨h0, h⟩ := guardO_some h
      obtain ⟨hb, h0⟩ := and_ok h0
      obtain ⟨hset, hloc⟩ := and_ok h0
      obtain ⟨ci, p, h1, h2, rfl⟩ := bind2_some h
      obtain ⟨ce, cu, h3, h4, rfl⟩ := bind2_some h2
      have hl : scope.names.lookup x = some .local := by
        split at hloc
        · assumption
        · cases hloc
      have hix : X.N[i]? = some x := by rw [hN]; exact idx_ok hi
      refine ⟨x, px, it, ifs, i, denI g ci, denU g cu, denE g ce, rfl, cI_ok (fun e c h => hE sc e c X Wx h C S hN) C S h1, blk_ok S hb hN, fun s H A cl fp => ?_, fun s H A cl fp => ?_, fun s H A cl fp => ?_, folded_of hset, rfl⟩
      · exact pg_name C.nd hix (.inl (sc_blk.loc x hl)) (.inr (sc_blk.loc x hl))
      · cases ifs with
        | nil =>
          cases h4
          exact ⟨fun pins s σ H Q I ⟨F, σ', H', Q', E', rs, ab, qr, er, h⟩ => pts_nil.run pins s σ H Q I (qr true H' h F H (Same.refl _) ab)⟩
        | cons t r =>
          cases r with
          | nil =>
            obtain ⟨ct, h5, rfl⟩ := map_some' h4
            exact pts_one (hT scope t ct _ _ h5 (ctx_blk C) sc_blk hN)
          | cons _ _ => cases h4
      · exact hE scope elt ce _ _ h3 (ctx_blk C) sc_blk hN
    · cases h
  · cases h
theorem cComp_ok (hE : SE g k N rE) (hT : STt g k N rT) (C : Ctx g k X Wx) (S : Sc sc X) (hN : X.N = N) {elt : Expr} {gens : List Comprehension} {scope : Scope} {pos : Pos} {c : CE} (h : cComp N rE rT sc elt gens scope = some c) :
    PE X (.ListComp elt gens scope pos) (lowE X.K Wx (denE g c)) := by
  obtain ⟨x, px, it, ifs, i, ti, tt, te, rfl, h1, h2, h3, h4, h5, h6, h7⟩ := cComp_parts hE hT C S hN h
  rw [h7]
  exact PE.imp (pe_lc (own := [(x, i)]) (g := gName i) C.calm C.nd h1 h2 h3 h4 h5 h6) fun σ H Q h => low_lcm h
theorem stepE_ok (hE : SE g k N rE) (hT : STt g k N rT) : SE g k N (stepE N rE rT) := by
  intro sc e c X Wx h C S hN
  have hE' : ∀ e c, rE sc e = some c → PE X e (lowE X.K Wx (denE g c)) := fun e c h => hE sc e c X Wx h C S hN
  have hT' : ∀ e c, rT sc e = some c → PT X e (lowT X.K Wx (denT g c)) := fun e c h => hT sc e c X Wx h C S hN
  cases e with
  | Constant c0 n pos =>
    cases c0 <;> first
      | (cases h; exact w_lit pe_non fun _ => rfl)
      | (cases h; exact w_lit pe_bl fun _ => rfl)
      | (cases h; exact w_lit pe_int fun _ => rfl)
      | (cases h; exact w_lit pe_str fun _ => rfl)
      | cases h
  | Name x pos => exact cName_ok h C S hN
  | List es pos =>
    obtain ⟨a, h1, rfl⟩ := map_some' (show (cA (rE sc) es).map .lst = some c from h)
    exact w_lst (cA_ok hE' h1).1
  | Tuple es n pos =>
    obtain ⟨a, h1, rfl⟩ := map_some' (show (cA (rE sc) es).map .tup = some c from h)
    exact w_tup (cA_ok hE' h1).1
  | BinOp a op b pos =>
    obtain ⟨x, y, h1, h2, rfl⟩ := bind2_some (show bind2 (rE sc a) (rE sc b) (.bin op) = some c from h)
    exact w_bin (hE' a x h1) (hE' b y h2)
  | UnaryOp op a pos =>
    cases op with
    | USub =>
      obtain ⟨x, h1, rfl⟩ := map_some' (show (rE sc a).map .neg = some c from h)
      exact w_neg (hE' a x h1)
    | Not =>
      obtain ⟨x, h1, rfl⟩ := map_some' (show (rE sc a).map .notV = some c from h)
      exact w_not (hE' a x h1)
    | _ => cases h
  | Compare a ops bs pos =>
    simp only [stepE] at h
    split at h
    · obtain ⟨hm, h⟩ := guardO_some h
      obtain ⟨x, y, h1, h2, rfl⟩ := bind2_some h
      exact w_cmp C (hE' _ x h1) (hE' _ y h2) (by simpa using hm)
    · obtain ⟨hm, h⟩ := guardO_some h
      obtain ⟨x, p, h1, h2, rfl⟩ := bind2_some h
      obtain ⟨y, z, h3, h4, rfl⟩ := bind2_some h2
      exact w_chn C (hE' _ x h1) (hE' _ y h3) (hE' _ z h4) (by simpa using hm)
    · cases h
  | BoolOp op vs pos => exact cBools_ok hE' (show cBools op (rE sc) vs = some c from h)
  | IfExp t a b pos =>
    obtain ⟨x, p, h1, h2, rfl⟩ := bind2_some (show bind2 (rT sc t) (bind2 (rE sc a) (rE sc b) Prod.mk) (fun t p => .ife t p.1 p.2) = some c from h)
    obtain ⟨y, z, h3, h4, rfl⟩ := bind2_some h2
    exact w_ife (hT' _ x h1) (hE' _ y h3) (hE' _ z h4)
  | Attribute o f pos =>
    obtain ⟨hb, h⟩ := guardO_some (show guardO (plainBase o) ((rE sc o).map (.fld · f)) = some c from h)
    obtain ⟨x, h1, rfl⟩ := map_some' h
    exact w_fld C.says (hE' o x h1) hb
  | Subscript a s pos => exact cSub_ok hE' C (show cSub (rE sc) a s = some c from h)
  | Call f args kws pos =>
    simp only [stepE] at h
    split at h
    · split at h
      · exact cCallN_ok hE' C S h
      · exact cMeth_ok hE' C h
      · cases h
    · cases h
  | ListComp elt gens scope pos => exact cComp_ok hE hT C S hN (show cComp N rE rT sc elt gens scope = some c from h)
  | Dict keys values pos =>
    simp only [stepE] at h
    split at h
    · cases h
      exact w_dnew
    · obtain ⟨h0, h⟩ := guardO_some h
      obtain ⟨h1, h0⟩ := and_ok h0
      obtain ⟨h2, h3⟩ := and_ok h0
      obtain ⟨ps, h4, rfl⟩ := map_some' h
      exact w_dct (cPs_ok hE' h4) h1 (of_decide_eq_true h2) (List.cons_ne_nil _ _) (of_decide_eq_true h3)
    · cases h
  | _ => cases h
theorem stepT_ok (hE : SE g k N rE) (hT : STt g k N rT) : STt g k N (stepT rE rT) := by
  intro sc e c X Wx h C S hN
  have hE' : ∀ e c, rE sc e = some c → PE X e (lowE X.K Wx (denE g c)) := fun e c h => hE sc e c X Wx h C S hN
  have hT' : ∀ e c, rT sc e = some c → PT X e (lowT X.K Wx (denT g c)) := fun e c h => hT sc e c X Wx h C S hN
  have plain : ∀ e, plainTest e = true → guardO (plainTest e) ((rE sc e).map .tru) = some c → PT X e (lowT X.K Wx (denT g c)) := fun e hp h => by
    obtain ⟨_, h⟩ := guardO_some h
    obtain ⟨x, h1, rfl⟩ := map_some' h
    exact w_truT (hE' e x h1) hp
  cases e with
  | BoolOp op vs pos => exact (cTests_ok hT' (show cTests op (rT sc) vs = some c from h)).pt
  | UnaryOp op a pos =>
    cases op with
    | Not =>
      obtain ⟨x, h1, rfl⟩ := map_some' (show (rT sc a).map .not = some c from h)
      exact w_notT (hT' a x h1)
    | _ => cases h
  | Compare a ops bs pos =>
    simp only [stepT] at h
    split at h
    · obtain ⟨hm, h⟩ := guardO_some h
      obtain ⟨x, y, h1, h2, rfl⟩ := bind2_some h
      exact w_cmpT C (hE' _ x h1) (hE' _ y h2) (by simpa using hm)
    · obtain ⟨hm, h⟩ := guardO_some h
      obtain ⟨x, p, h1, h2, rfl⟩ := bind2_some h
      obtain ⟨y, z, h3, h4, rfl⟩ := bind2_some h2
      exact w_chnT C (hE' _ x h1) (hE' _ y h3) (hE' _ z h4) (by simpa using hm)
    · cases h
  | IfExp t a b pos =>
    obtain ⟨h0, _⟩ := guardO_some (show guardO (plainTest (.IfExp t a b pos)) ((rE sc (.IfExp t a b pos)).map .tru) = some c from h)
    cases h0
  | _ => exact plain _ rfl h
theorem cET_ok : ∀ n, SE g k N (cET N n).1 ∧ STt g k N (cET N n).2
  | 0 => ⟨fun _ _ _ _ _ h => (by cases h), fun _ _ _ _ _ h => (by cases h)⟩
  | n + 1 =>
    let ⟨a, b⟩ := cET_ok n
    ⟨stepE_ok a b, stepT_ok a b⟩
end
end WL

/-! ## Statements and defs read -/
namespace WL
open PySem L2
structure CtxS (g : Gm) (k : Nat) (X : Cx) (Wx : WX) (N : List Str) (sc : Scope) : Prop where
  ctx : Ctx g k X Wx
  own : PassesOwn (model X.prog X.w) X.A X.env X.xe
  hs : X.stack = X.env :: X.outer
  hf : X.env.frame = some X.env.locals
  fn : ∀ x, X.fn x = true
  scope : X.env.scope = sc
  kind : X.env.scope.kind = .function
  hN : X.N = N
theorem CtxS.sc {g : Gm} {k : Nat} {X : Cx} {Wx : WX} {N : List Str} {sc : Scope} (C : CtxS g k X Wx N sc) : Sc sc X := by
  have e := C.scope
  subst e
  exact ⟨fun _ h => h, fun _ h => h, fun _ h => .inr h, fun _ h => h⟩
def locIx (N : List Str) (sc : Scope) (x : Str) : Option Nat := match sc.names.lookup x with
  | some .local => idx N x
  | some .cell => idx N x
  | _ => none
theorem locIx_ok {g : Gm} {k : Nat} {X : Cx} {Wx : WX} {N : List Str} {sc : Scope} (C : CtxS g k X Wx N sc) {x : Str} {i : Nat} (h : locIx N sc x = some i) : X.N[i]? = some x ∧ Loc X.env.scope x := by
  have e := C.scope
  have eN := C.hN
  subst e
  subst eN
  unfold locIx at h
  split at h
  · exact ⟨idx_ok h, .inl (by assumption)⟩
  · exact ⟨idx_ok h, .inr (by assumption)⟩
  · cases h
def cBlock (rS : Stmt → Option CS) : List Stmt → Option (List CS)
  | [] => some []
  | s :: r => bind2 (rS s) (cBlock rS r) List.cons
def constW : Const → Option (W × V)
  | .none => some (.non, .non)
  | .bool b => some (.bl b, .bl b)
  | _ => none
theorem constW_ok {c : Const} {w : W} {v : V} (h : constW c = some (w, v)) : (∀ K F, RelW K F w v) ∧ ∀ (Y : Cx) n p p2, PS Y (.Return (some (.Constant c n p)) p2) (fun D _ H => D.rt v H) := by
  cases c with
  | none => cases h; exact ⟨fun _ _ => rfl, fun Y n p p2 => ps_ret pe_non⟩
  | bool b => cases h; exact ⟨fun _ _ => rfl, fun Y n p p2 => ps_ret pe_bl⟩
  | _ => cases h
def isLocal (sc : Scope) (x : Str) : Bool := match sc.names.lookup x with
  | some .local => true
  | _ => false
def plainTuple : Expr → Bool
  | .Tuple _ _ _ => false
  | .List _ _ => false
  | _ => true
def cAssign (N : List Str) (rE : RE) (rT : RT) (sc : Scope) (t e : Expr) : Option CS := match t with
  | .Name y py => match locIx N sc y with
    | some i => (match e with
      | .ListComp elt gens scope pos => if isLocal sc y then guardO ((py.line == pos.line) && !(scope.names.any fun (n, k) => n == y && (k == .local || k == .cell))) ((cComp N rE rT sc elt gens scope).map (.set i))
          else (cComp N rE rT sc elt gens scope).map (.set i)
      | e => guardO (notComp e) ((rE sc e).map (.set i)))
    | none => none
  | .Attribute o f _ => bind2 (rE sc o) (rE sc e) fun a b => .fset a f b
  | .Subscript o i _ => bind2 (rE sc o) (bind2 (rE sc i) (rE sc e) Prod.mk) fun a p => .iset a p.1 p.2
  | .Tuple ts _ _ => (match ts with
    | [.Name a _, .Name b _, .Name c _] => guardO (notComp e && plainTuple e) (bind2 (locIx N sc a) (bind2 (locIx N sc b) (bind2 (locIx N sc c) (rE sc e) Prod.mk) Prod.mk) fun i p => .unp [i, p.1, p.2.1] p.2.2)
    | _ => none)
  | _ => none
def stepS (N : List Str) (rE : RE) (rT : RT) (sc : Scope) (rS : Stmt → Option CS) (s : Stmt) : Option CS := match s with
  | .Pass _ => some .pass
  | .Return v _ => (match v with
    | none => some .retN
    | some e => (rE sc e).map .ret)
  | .Expr e _ => guardO (notComp e) ((rE sc e).map .expr)
  | .If t a b _ => bind2 (rT sc t) (bind2 (cBlock rS a) (cBlock rS b) Prod.mk) fun t p => .ifs t p.1 p.2
  | .For tg it body orelse _ => (match tg, orelse with
    | .Name x _, [] => (match locIx N sc x with
      | some i => guardO (notSet it) (bind2 (cI (rE sc) sc it) (cBlock rS body) (.for_ i))
      | none => none)
    | _, _ => none)
  | .While t body orelse _ => (match orelse with
    | [] => bind2 (rT sc t) (cBlock rS body) .whl
    | _ => none)
  | .Raise e none _ => (match e with
    | some (.Call (.Name x _) [.Constant (.str _) _ _] [] _) => guardO (glob sc x) (some (.raise x))
    | _ => none)
  | .Try body hs orelse fin _ => (match hs, orelse, fin with
    | [.ExceptHandler (some (.Name x _)) none [.Return (some (.Constant c _ _)) _] _], [], [] => guardO (glob sc x) (bind2 (cBlock rS body) (constW c) fun b w => .try_ b x w.1)
    | _, _, _ => none)
  | .Assign ts e _ => (match ts with
    | [t] => cAssign N rE rT sc t e
    | _ => none)
  | _ => none
def cSn (N : List Str) (rE : RE) (rT : RT) (sc : Scope) : Nat → Stmt → Option CS
  | 0 => fun _ => none
  | n + 1 => stepS N rE rT sc (cSn N rE rT sc n)
def SSo (g : Gm) (k : Nat) (N : List Str) (sc : Scope) (rS : Stmt → Option CS) : Prop := ∀ s c X Wx, rS s = some c → CtxS g k X Wx N sc → PS X s (lowS X.K Wx (denS g c))
section
variable {g : Gm} {k : Nat} {N : List Str} {rE : RE} {rT : RT} {sc : Scope} {X : Cx} {Wx : WX} {rS : Stmt → Option CS}
theorem cBlock_ok (hS : ∀ s c, rS s = some c → PS X s (lowS X.K Wx (denS g c))) : ∀ {b : List Stmt} {c : List CS}, cBlock rS b = some c → PSs X b (lowS X.K Wx (denB g c))
  | [], c, h => by
    cases h
    exact s_nil
  | s :: r, c, h => by
    obtain ⟨x, y, h1, h2, rfl⟩ := bind2_some h
    exact s_cons (hS s x h1) (cBlock_ok hS h2)
theorem swaps_cell {elt : Expr} {gens : List Comprehension} {scope : Scope} {pos py : Pos} {y : Str} {l : Nat} {env : Env} (h : env.scope.names.lookup y ≠ some .local) : swapsWith (.ListComp elt gens scope pos) (some (.Name y py)) l env = pure false := by
  have ky : (env.kindOf y == some NameKind.local) = false := beq_eq_false_iff_ne.mpr h
  unfold swapsWith
  simp only [ky, Bool.and_false, Bool.false_and]
theorem swaps_attr {e o : Expr} {f : Str} {p : Pos} {l : Nat} {env : Env} : swapsWith e (some (.Attribute o f p)) l env = pure false := by cases e <;> rfl
theorem swaps_sub {e o i : Expr} {p : Pos} {l : Nat} {env : Env} : swapsWith e (some (.Subscript o i p)) l env = pure false := by cases e <;> rfl
theorem swaps_tup {e : Expr} {ts : List Expr} {n : Nat} {p : Pos} {l : Nat} {env : Env} (h : notComp e = true) : swapsWithSole [.Tuple ts n p] e l env = pure false := (show swapsWith e (some (.Tuple ts n p)) (Expr.Tuple ts n p).pos.line env = pure false from swaps_of h)
theorem stores_tup {e : Expr} {ts : List Expr} {n : Nat} {p : Pos} {env : Env} (h : plainTuple e = true) : swappedStores [.Tuple ts n p] e env = pure none := by
  cases e <;> first | rfl | cases h
theorem cAssign_ok (hE : SE g k N rE) (hT : STt g k N rT) (C : CtxS g k X Wx N sc) {t e : Expr} {pos : Pos} {c : CS} (h : cAssign N rE rT sc t e = some c) : PS X (.Assign [t] e pos) (lowS X.K Wx (denS g c)) := by
  have hE' : ∀ e c, rE sc e = some c → PE X e (lowE X.K Wx (denE g c)) := fun e c h => hE sc e c X Wx h C.ctx C.sc C.hN
  unfold cAssign at h
  split at h
  · rename_i y py
    split at h
    · rename_i i hi
      obtain ⟨hN, hl⟩ := locIx_ok C hi
      split at h
      · rename_i elt gens scope cpos
        have viaCell : X.env.scope.names.lookup y ≠ some .local → (cComp N rE rT sc elt gens scope).map (.set i) = some c → PS X (.Assign [.Name y py] (.ListComp elt gens scope cpos) pos) (lowS X.K Wx (denS g c)) := fun hne h => by
          obtain ⟨a, h1, rfl⟩ := map_some' h
          exact s_set C.ctx.nd hN hl (.inl (C.fn y)) (cComp_ok hE hT C.ctx C.sc C.hN h1) (swaps_cell hne)
        split at h
        · rename_i hloc
          obtain ⟨h0, h⟩ := guardO_some h
          obtain ⟨h1, h2⟩ := and_ok h0
          obtain ⟨a, h3, rfl⟩ := map_some' h
          have hyl : X.env.scope.names.lookup y = some .local := by
            have e := C.scope
            subst e
            unfold isLocal at hloc
            split at hloc
            · assumption
            · cases hloc
          obtain ⟨x, px, it, ifs, j, ti, tt, te, rfl, p1, p2, p3, p4, p5, p6, p7⟩ := cComp_parts hE hT C.ctx C.sc C.hN h3
          have z := s_setLc (i := i) (pos := cpos) (spos := pos) (py := py) (Wx := Wx) C.ctx.calm C.ctx.nd hN hyl (sw_true C.kind hyl h1 (by simpa using h2)) p1 p2 p3 p4 p5 p6
          refine PS.imp z fun D σ H h => ?_
          obtain ⟨F, σ', H', D', rs, ab, d, h⟩ := h
          refine ⟨F, σ', H', D', rs, ab, d, ?_⟩
          have h' : denE g a σ' H' (fun x H1 => D'.nx (σ'.set i (some x)) H1) (fun C H1 => D'.ex C σ' H1) := h
          rw [p7] at h'
          exact h'
        · rename_i hloc
          refine viaCell (fun hyl => hloc ?_) h
          have e := C.scope
          subst e
          unfold isLocal
          rw [hyl]
      · obtain ⟨h1, h⟩ := guardO_some h
        obtain ⟨a, h2, rfl⟩ := map_some' h
        exact s_set C.ctx.nd hN hl (.inl (C.fn y)) (hE' _ a h2) (swaps_of h1)
    · cases h
  · obtain ⟨a, b, h1, h2, rfl⟩ := bind2_some h
    exact s_fset C.ctx.says (hE' _ a h1) (hE' _ b h2) swaps_attr
  · obtain ⟨a, p, h1, h2, rfl⟩ := bind2_some h
    obtain ⟨b, d, h3, h4, rfl⟩ := bind2_some h2
    exact s_iset C.ctx (hE' _ a h1) (hE' _ b h3) (hE' _ d h4) swaps_sub
  · split at h
    · obtain ⟨h0, h⟩ := guardO_some h
      obtain ⟨h1, h2⟩ := and_ok h0
      obtain ⟨i, p, h3, h4, rfl⟩ := bind2_some h
      obtain ⟨j, q, h5, h6, rfl⟩ := bind2_some h4
      obtain ⟨l, ce, h7, h8, rfl⟩ := bind2_some h6
      obtain ⟨n1, l1⟩ := locIx_ok C h3
      obtain ⟨n2, l2⟩ := locIx_ok C h5
      obtain ⟨n3, l3⟩ := locIx_ok C h7
      refine s_unp (is := [i, j, l]) (hE' _ ce h8) ⟨fun pins s σ H v u Q I r hq => PG.run (pg_tup C.ctx.calm (pgs_cons (pg_name C.ctx.nd n1 l1 (.inl (C.fn _))) (pgs_cons (pg_name C.ctx.nd n2 l2 (.inl (C.fn _))) (pgs_cons (pg_name C.ctx.nd n3 l3 (.inl (C.fn _))) pgs_nil)))) pins s σ H v u Q I r ?_⟩ (swaps_tup h1) (stores_tup h2)
      obtain ⟨d, xs, e1, e2, e3, e4, e5⟩ := hq
      refine ⟨d, xs, e1, e2, e3, ?_⟩
      match xs, e3, e5 with
      | [x1, x2, x3], _, e5 => exact ⟨x1, _, rfl, x2, _, rfl, x3, _, rfl, rfl, e5 _ rfl⟩
    · cases h
  · cases h
theorem stepS_ok (hE : SE g k N rE) (hT : STt g k N rT) (hS : SSo g k N sc rS) : SSo g k N sc (stepS N rE rT sc rS) := by
  intro s c X Wx h C
  have hE' : ∀ e c, rE sc e = some c → PE X e (lowE X.K Wx (denE g c)) := fun e c h => hE sc e c X Wx h C.ctx C.sc C.hN
  have hT' : ∀ e c, rT sc e = some c → PT X e (lowT X.K Wx (denT g c)) := fun e c h => hT sc e c X Wx h C.ctx C.sc C.hN
  have hS' : ∀ s c, rS s = some c → PS X s (lowS X.K Wx (denS g c)) := fun s c h => hS s c X Wx h C
  unfold stepS at h
  split at h
  · cases h
    exact s_pass
  · split at h
    · cases h
      exact s_retN
    · obtain ⟨a, h1, rfl⟩ := map_some' h
      exact s_ret (hE' _ a h1)
  · obtain ⟨h1, h⟩ := guardO_some h
    obtain ⟨a, h2, rfl⟩ := map_some' h
    exact s_expr (hE' _ a h2) h1
  · obtain ⟨t, p, h1, h2, rfl⟩ := bind2_some h
    obtain ⟨a, b, h3, h4, rfl⟩ := bind2_some h2
    exact s_if (hT' _ t h1) (cBlock_ok hS' h3) (cBlock_ok hS' h4)
  · split at h
    · split at h
      · rename_i i hi
        obtain ⟨hN, hl⟩ := locIx_ok C hi
        obtain ⟨h1, h⟩ := guardO_some h
        obtain ⟨a, b, h2, h3, rfl⟩ := bind2_some h
        exact s_for C.own C.ctx.calm (cI_ok hE' C.ctx C.sc h2) (pg_name C.ctx.nd hN hl (.inl (C.fn _))) (cBlock_ok hS' h3) (folded_of h1)
      · cases h
    · cases h
  · split at h
    · obtain ⟨t, b, h1, h2, rfl⟩ := bind2_some h
      exact s_whl C.own (hT' _ t h1) (cBlock_ok hS' h2)
    · cases h
  · split at h
    · obtain ⟨h1, h⟩ := guardO_some h
      cases h
      obtain ⟨hg, hd⟩ := glob_ok C.sc h1
      exact s_raise C.ctx hg hd
    · cases h
  · split at h
    · obtain ⟨h1, h⟩ := guardO_some h
      obtain ⟨b, w, h2, h3, rfl⟩ := bind2_some h
      obtain ⟨hg, hd⟩ := glob_ok C.sc h1
      obtain ⟨w, v⟩ := w
      obtain ⟨rw', hp⟩ := constW_ok h3
      refine s_try C.hs C.hf hg hd C.ctx.says C.ctx.takes (fun Wy pn xe tk po => ?_) (fun Y => hp Y _ _ _) (rw' _)
      refine cBlock_ok (X := X.tr pn xe) (fun s c h => hS s c (X.tr pn xe) Wy h ⟨⟨⟨C.ctx.says.fn, C.ctx.says.mth, C.ctx.says.made, C.ctx.says.fld, C.ctx.says.int, C.ctx.says.exc, C.ctx.says.exm⟩, C.ctx.free, C.ctx.room, C.ctx.calm, C.ctx.nd, tk⟩, po, C.hs, C.hf, C.fn, C.scope, C.kind, C.hN⟩) h2
    · cases h
  · split at h
    · exact cAssign_ok hE hT C h
    · cases h
  · cases h
theorem cSn_ok (hE : SE g k N rE) (hT : STt g k N rT) : ∀ n, SSo g k N sc (cSn N rE rT sc n)
  | 0 => fun _ _ _ _ h => by cases h
  | n + 1 => stepS_ok hE hT (cSn_ok hE hT n)
end

/-! ### defs -/
def scOk (N ps : List Str) (sc : Scope) : Bool := (match sc.kind with | .function => true | _ => false) && (!sc.isCoroutine && (!sc.isGenerator && (decide N.Nodup && (decide (N.take ps.length = ps) &&
  (ps.all (fun x => match sc.names.lookup x with | some .local => true | some .cell => true | _ => false) && sc.names.all fun y => decide (y.2 ≠ .free))))))
theorem scOk_ok {N ps : List Str} {sc : Scope} (h : scOk N ps sc = true) : FnScope N ps sc := by
  obtain ⟨h1, h⟩ := and_ok h
  obtain ⟨h2, h⟩ := and_ok h
  obtain ⟨h3, h⟩ := and_ok h
  obtain ⟨h4, h⟩ := and_ok h
  obtain ⟨h5, h⟩ := and_ok h
  obtain ⟨h6, h7⟩ := and_ok h
  refine ⟨?_, by simpa using h2, by simpa using h3, of_decide_eq_true h4, of_decide_eq_true h5, fun x hx => ?_, fun y hy => ?_⟩
  · split at h1
    · assumption
    · cases h1
  · have z := List.all_eq_true.mp h6 x hx
    split at z
    · exact .inl (by assumption)
    · exact .inr (by assumption)
    · cases z
  · exact of_decide_eq_true (List.all_eq_true.mp h7 y hy)
def cDef (N ps : List Str) (sc : Scope) (body : List Stmt) : Option (List CS) := guardO (scOk N ps sc) (cBlock (cSn N (cET N 40).1 (cET N 40).2 sc 40) body)
/-- the ends of a def's body -/
def endOf (Q : KW) (E : EW) : EndW := ⟨fun _ H => Q .non H, Q, fun _ _ => False, fun _ _ => False, fun C _ H => E C H⟩
/-- what a def may return: a list of its own as one that stays as it is, too -/
def frz (Q : KW) : KW := fun w H => Q w H ∨ ∃ a xs, w = .ref a ∧ H a = some (.lst xs) ∧ Q (.fls xs) (delW H a)
theorem frz_low {K : PySem.W.Frag} {F : Hp} {Q' : KW} {Q : VK} (q : QR K F Q' Q) : QR K F (frz Q') Q := fun w H' h F1 v H s r A => by
  rcases h with h | ⟨a, xs, rfl, e, h⟩
  · exact q w H' h F1 v H s r A
  · obtain ⟨F2, s2, A2, r2⟩ := A.freeze e
    obtain rfl : v = V.ref a := r
    exact q _ _ h F2 _ H (s.trans s2) r2 A2
def startW (N : List Str) (ws : List W) : Sw := ws.map some ++ List.replicate (N.length - ws.length) none
theorem def_ok {P : Program} {w : World} {K : PySem.W.Frag} {mg : Str → Option Value} {base : Heap} {k : Nat} {g : Gm} {f : Addr} {fd : FuncData} {x qual : Str} {params : Arguments} {body : List Stmt} {scope : Scope} {N ps : List Str} {c : List CS} {sp : SpW}
    (F : FunD K x qual params body scope [] [] f fd) (hc : cDef N ps scope body = some c)
    (S : ∀ X : Cx, X.prog = P → X.w = w → X.K = K → X.mg = mg → X.base = base → Says g k X ∧ Free X)
    (len : ∀ ws H Q E, sp ws H Q E → ws.length = ps.length) (rd : ∀ ws H Q E, sp ws H Q E → denB g c (endOf (frz Q) E) (startW N ws) H) :
    FnOk P w K mg base (L2.CX P w) (k + 2) f fd ps (lowSp K sp) := by
  obtain ⟨h0, hc⟩ := guardO_some hc
  have FS := scOk_ok h0
  obtain ⟨hE, hT⟩ := cET_ok (g := g) (k := k) (N := N) 40
  refine F.ok (k := k + 1) FS (fun vs H Q E ⟨F1, ws, H', Q', E', r, _, _, _, h⟩ => by rw [← r.length]; exact len _ _ _ _ h) fun cdv A outer s H vs Q E hr h => ?_
  obtain ⟨S1, S2⟩ := S (cxOf (L2.CX P w) P w K mg base N qual scope f cdv A outer s H E) rfl rfl rfl rfl rfl
  have tk : Takes (cxOf (L2.CX P w) P w K mg base N qual scope f cdv A outer s H E) (fun cls d _ H => E cls d H) := takes_of rfl rfl rfl rfl
  have C : CtxS g k (cxOf (L2.CX P w) P w K mg base N qual scope f cdv A outer s H E) (fun cls d _ H => E cls d H) N scope :=
    ⟨⟨S1, S2, hr, rfl, FS.nd, tk⟩, passes_of rfl, rfl, rfl, fun _ => rfl, rfl, FS.kind, rfl⟩
  refine ⟨_, cBlock_ok (fun s c h => cSn_ok hE hT 40 s c _ _ h C) hc, ?_⟩
  obtain ⟨F1, ws, H', Q', E', r, ab, qr, er, h⟩ := h
  have hst : RelS K F1 (startW N ws) (L2.start N vs) := by
    unfold startW L2.start
    rw [r.length]
    exact RelS.start _ r
  exact ⟨F1, startW N ws, H', endOf (frz Q') E', hst, ab, ⟨fun σ1 H1 hn F2 σ2 H2 s2 r2 ab2 => frz_low qr .non H1 hn F2 .non H2 s2 rfl ab2, frz_low qr, fun _ _ h => h.elim, fun _ _ h => h.elim, fun C σ1 H1 hx F2 σ2 H2 s2 r2 ab2 => er C H1 hx F2 H2 s2 ab2⟩, rd ws H' Q' E' h⟩
end WL

/-! ## What is known of the module's names, at a level -/
namespace WL
open PySem L2

def Gk (P : Program) (w : World) (K : PySem.W.Frag) (mg : Str → Option Value) (base : Heap) (k : Nat) : Gm where
  fn f sp := ∃ a fd ps, FnOk P w K mg base (L2.CX P w) k a fd ps (lowSp K sp) ∧ mg f = some (.ref a) ∧ PySem.W.keepIn K (.ref a) = true ∧ Binds K fd ps []
  mth C m sp := Cls K C ∧ ∃ f fd ps, Meth K C m f ∧ FnOk P w K mg base (L2.CX P w) k f fd ps (lowSp K sp) ∧ Binds K fd ps []
  made x C sp := mg x = some (.ref C) ∧ ∃ a fd ps, Mk K C a ∧ FnOk P w K mg base (L2.CX P w) k a fd ps (lowSp K sp) ∧ Binds K fd ps []
  fld C f := Cls K C ∧ NoAttr K C f
  int x i := ∃ t, mg x = some (.int i t)
  exc x C := mg x = some (.ref C) ∧ PySem.W.excIn K C He.veBase "ValueError.__new__" = true ∧ PySem.W.keepIn K (.ref C) = true ∧ PySem.W.subIn K (.ref C) (.type "BaseException") = some true ∧ PySem.W.typeIn K (.ref C) = some (.type "type")
  exm C x b := ∃ c, mg x = some (.ref c) ∧ PySem.W.exmOne K (.ref C) (.ref c) = some b
def FreeM (mg : Str → Option Value) : Prop := ∀ x : Str, x = "len" ∨ x = "list" ∨ x = "tuple" ∨ x = "sorted" ∨ x = "max" ∨ x = "min" ∨ x = "int" ∨ x = "bool" ∨ x = "str" ∨ x = "isinstance" ∨ x = "range" → mg x = none
section
variable {P : Program} {w : World} {K : PySem.W.Frag} {mg : Str → Option Value} {base : Heap} {j k : Nat}
theorem says_Gk {X : Cx} (h1 : X.prog = P) (h2 : X.w = w) (h3 : X.K = K) (h4 : X.mg = mg) (h5 : X.base = base) : Says (Gk P w K mg base k) k X := by
  subst h1 h2 h3 h4 h5
  exact ⟨fun _ _ h => h, fun _ _ _ h => h, fun _ _ _ h => h, fun _ _ h => h, fun _ _ h => h, fun _ _ h => h, fun _ _ _ h => h⟩
theorem Gk.fn_up {f : Str} {sp : SpW} (h : (Gk P w K mg base j).fn f sp) (i : j ≤ k) : (Gk P w K mg base k).fn f sp := by
  obtain ⟨a, fd, ps, F, h⟩ := h
  exact ⟨a, fd, ps, F.mono i, h⟩
theorem Gk.mth_up {C : Addr} {f : Str} {sp : SpW} (h : (Gk P w K mg base j).mth C f sp) (i : j ≤ k) : (Gk P w K mg base k).mth C f sp := by
  obtain ⟨c, a, fd, ps, m, F, h⟩ := h
  exact ⟨c, a, fd, ps, m, F.mono i, h⟩
theorem Gk.made_up {C : Addr} {f : Str} {sp : SpW} (h : (Gk P w K mg base j).made f C sp) (i : j ≤ k) : (Gk P w K mg base k).made f C sp := by
  obtain ⟨c, a, fd, ps, m, F, h⟩ := h
  exact ⟨c, a, fd, ps, m, F.mono i, h⟩
section
variable {f : Addr} {fd : FuncData} {x qual : Str} {params : Arguments} {body : List Stmt} {scope : Scope} {N ps : List Str} {c : List CS} {sp : SpW}
theorem fnOk_in (F : FunD K x qual params body scope [] [] f fd) (fr : FreeM mg) (hc : cDef N ps scope body = some c)
    (len : ∀ ws H Q E, sp ws H Q E → ws.length = ps.length) (rd : ∀ ws H Q E, sp ws H Q E → denB (Gk P w K mg base k) c (endOf (frz Q) E) (startW N ws) H) :
    FnOk P w K mg base (L2.CX P w) (k + 2) f fd ps (lowSp K sp) :=
  def_ok F hc (fun X h1 h2 h3 h4 h5 => ⟨says_Gk h1 h2 h3 h4 h5, by subst h4; exact fr⟩) len rd
theorem fn_in (F : FunD K x qual params body scope [] [] f fd) (gx : mg x = some (.ref f)) (hb : Binds K fd ps []) (fr : FreeM mg) (hc : cDef N ps scope body = some c)
    (len : ∀ ws H Q E, sp ws H Q E → ws.length = ps.length) (rd : ∀ ws H Q E, sp ws H Q E → denB (Gk P w K mg base k) c (endOf (frz Q) E) (startW N ws) H) :
    (Gk P w K mg base (k + 2)).fn x sp := ⟨f, fd, ps, fnOk_in F fr hc len rd, gx, F.kp, hb⟩
theorem mth_in {C : Addr} {m : Str} (F : FunD K x qual params body scope [] [] f fd) (cl : Cls K C) (mt : Meth K C m f) (hb : Binds K fd ps []) (fr : FreeM mg) (hc : cDef N ps scope body = some c)
    (len : ∀ ws H Q E, sp ws H Q E → ws.length = ps.length) (rd : ∀ ws H Q E, sp ws H Q E → denB (Gk P w K mg base k) c (endOf (frz Q) E) (startW N ws) H) :
    (Gk P w K mg base (k + 2)).mth C m sp := ⟨cl, f, fd, ps, mt, fnOk_in F fr hc len rd, hb⟩
theorem made_in {C : Addr} {y : Str} (F : FunD K x qual params body scope [] [] f fd) (gx : mg y = some (.ref C)) (mt : Mk K C f) (hb : Binds K fd ps []) (fr : FreeM mg) (hc : cDef N ps scope body = some c)
    (len : ∀ ws H Q E, sp ws H Q E → ws.length = ps.length) (rd : ∀ ws H Q E, sp ws H Q E → denB (Gk P w K mg base k) c (endOf (frz Q) E) (startW N ws) H) :
    (Gk P w K mg base (k + 2)).made y C sp := ⟨gx, f, fd, ps, mt, fnOk_in F fr hc len rd, hb⟩
/-- the law's own def: nothing comes out of it -/
theorem law_in (F : FunD K x qual params body scope [] [] f fd) (fr : FreeM mg) (hc : cDef N ps scope body = some c)
    (len : ∀ ws H Q E, sp ws H Q E → ws.length = ps.length) (rd : ∀ ws H Q E, sp ws H Q E → denB (Gk P w K mg base k) c (endOf Q (fun _ _ => False)) (startW N ws) H) :
    FnOk P w K mg base L2.CX0 (k + 2) f fd ps (lowSp K sp) := by
  obtain ⟨h0, hc⟩ := guardO_some hc
  have FS := scOk_ok h0
  obtain ⟨hE, hT⟩ := cET_ok (g := Gk P w K mg base k) (k := k) (N := N) 40
  refine F.ok (k := k + 1) FS (fun vs H Q E ⟨F1, ws, H', Q', E', r, _, _, _, h⟩ => by rw [← r.length]; exact len _ _ _ _ h) fun cdv A outer s H vs Q E hr h => ?_
  have tk : Takes (cxOf L2.CX0 P w K mg base N qual scope f cdv A outer s H E).nox (fun _ _ _ _ => False) := fun u s' ⟨v, σ, H, d, h⟩ => by
    first | exact h.elim | exact h.1.elim | exact h.2.elim | (revert h; simp [XE])
  have C : CtxS (Gk P w K mg base k) k (cxOf L2.CX0 P w K mg base N qual scope f cdv A outer s H E).nox (fun _ _ _ _ => False) N scope :=
    ⟨⟨says_Gk rfl rfl rfl rfl rfl, fr, hr, rfl, FS.nd, tk⟩, PassesOwn.never, rfl, rfl, fun _ => rfl, rfl, FS.kind, rfl⟩
  refine ⟨_, PSs.nox (cBlock_ok (fun s c h => cSn_ok hE hT 40 s c _ _ h C) hc), ?_⟩
  obtain ⟨F1, ws, H', Q', E', r, ab, qr, er, h⟩ := h
  have hst : RelS K F1 (startW N ws) (L2.start N vs) := by
    unfold startW L2.start
    rw [r.length]
    exact RelS.start _ r
  exact ⟨F1, startW N ws, H', endOf Q' (fun _ _ => False), hst, ab, ⟨fun σ1 H1 hn F2 σ2 H2 s2 r2 ab2 => qr .non H1 hn F2 .non H2 s2 rfl ab2, qr, fun _ _ h => h.elim, fun _ _ h => h.elim, fun C σ1 H1 hx F2 σ2 H2 s2 r2 ab2 => hx.elim⟩, rd ws H' Q' E' h⟩
end
/-- the law's promise: at each script -/
def spLaw : SpW := fun ws H Q _ => ∃ ns : List Int, ns.length ≤ 63 ∧ ws = [.scr ns] ∧ H = (fun _ => none) ∧ ∀ H', Q (.bl true) H'
theorem spLaw_low {H : Hp} {a : Addr} {ns : List Int} (hl : ns.length ≤ 63) (hS : SqL K H a (ns.map V.int)) : lowSp K spLaw [.ref a] H (fun v _ => v = .bl true) (fun _ _ _ => False) := by
  refine ⟨H, [.scr ns], fun _ => none, fun v _ => v = .bl true, fun _ _ => False, .cons ⟨a, rfl, hS⟩ .nil, ⟨Same.refl _, fun _ _ h => by cases h⟩, fun w H' h F1 v H1 _ r _ => ?_, fun _ _ h => h.elim, ns, hl, rfl, rfl, fun _ => rfl⟩
  subst h
  exact r
end
end WL

/-! ## Equations by which simp runs the small syntax -/
namespace WL
open PySem L2
/-- an item: of a sequence, of a dict -/
def ixd (x y : W) (H : Hw) (Q : KW) : Prop := ixW x y H Q ∨ dgetW x y H Q
def ixo (o : Option HW) (y : W) (H : Hw) (Q : KW) : Prop := match o with
  | some (.lst xs) => ∃ j, y = .int j ∧ ∃ v, atI xs j = some v ∧ Q v H
  | some (.dct kvs) => ∃ k, keyW y = some k ∧ ∃ v, valW kvs k = some v ∧ Q v H
  | _ => False
def leno (o : Option HW) (H : Hw) (Q : KW) : Prop := match o with
  | some (.lst xs) => Q (.int xs.length) H
  | some (.dct kvs) => Q (.int kvs.length) H
  | _ => False
def lenW (w : W) (H : Hw) (Q : KW) : Prop := (∃ xs, seqA H w xs ∧ Q (.int xs.length) H) ∨ (∃ a, w = .ref a ∧ ∃ kvs, H a = some (.dct kvs) ∧ Q (.int kvs.length) H) ∨ ∃ x, w = .str x ∧ x.length ≤ sizeLine ∧ Q (.int x.length) H
def tupW (w : W) (H : Hw) (Q : KW) : Prop := (∃ xs, seqL H w xs ∧ Q (.tup xs) H) ∨ ∃ xs, w = .tup xs ∧ Q (.tup xs) H
def toInt (w : W) (H : Hw) (Q : KW) : Prop := (∃ b, w = .bl b ∧ Q (.int (if b then 1 else 0)) H) ∨ ∃ i, w = .int i ∧ Q (.int i) H
def lcmW (σ : Sw) (n : Nat) (stay : Hw → Prop) (t : TTW) (elt : TEW) (items : List W) (H : Hw) (Q : KW) : Prop := ∀ D, H D = none →
  compGo D (σ.set n none) n stay t elt (fun H2 => Q (.ref D) H2 ∨ ∃ acc, H2 D = some (.lst acc) ∧ Q (.fls acc) (delW H2 D)) items (updW H D (.lst []))
def isetW (x z y : W) (H : Hw) (K : Hw → Prop) : Prop := (∃ a, x = .ref a ∧ ∃ kvs, H a = some (.dct kvs) ∧ ∃ j, keyW z = some j ∧ kvs.length < sizeLine ∧ K (updW H a (.dct (putKW kvs j y)))) ∨
      ∃ a, x = .ref a ∧ ∃ xs, H a = some (.lst xs) ∧ ∃ j, z = .int j ∧ ∃ n, ixN xs.length j = some n ∧ K (updW H a (.lst (xs.set n y)))
def iseto (o : Option HW) (a : Addr) (z y : W) (H : Hw) (K : Hw → Prop) : Prop := match o with
  | some (.dct kvs) => ∃ j, keyW z = some j ∧ kvs.length < sizeLine ∧ K (updW H a (.dct (putKW kvs j y)))
  | some (.lst xs) => ∃ j, z = .int j ∧ ∃ n, ixN xs.length j = some n ∧ K (updW H a (.lst (xs.set n y)))
  | _ => False
section
variable {g : Gm} {σ : Sw} {H : Hw} {Q : KW} {E : EW} {D : EndW} {a b c e o i k : CE} {es : CEs} {f x m : Str} {n : Nat}
theorem e_var : denE g (.var n) σ H Q E = ∃ w, σ[n]? = some (some w) ∧ Q w H := rfl
theorem e_lit {w : W} : denE g (.lit w) σ H Q E = Q w H := rfl
theorem e_gint : denE g (.gint x) σ H Q E = ∃ i, g.int x i ∧ Q (.int i) H := rfl
theorem e_lst : denE g (.lst es) σ H Q E = denA g es σ H (fun ws H1 => ws.length ≤ sizeLine ∧ newL ws H1 Q) E := rfl
theorem e_tup : denE g (.tup es) σ H Q E = denA g es σ H (fun ws H1 => ws.length ≤ sizeLine ∧ Q (.tup ws) H1) E := rfl
theorem e_bin {op : Operator} : denE g (.bin op a b) σ H Q E = denE g a σ H (fun x H1 => denE g b σ H1 (fun y H2 => binW op x y H2 Q) E) E := rfl
theorem e_neg : denE g (.neg a) σ H Q E = denE g a σ H (fun x H1 => ∃ i, x = .int i ∧ Q (.int (-i)) H1) E := by
  show denE g a σ H _ E = _
  congr 1
  funext x H1
  cases x <;> simp
theorem e_cmp {op : CmpOp} : denE g (.cmp op a b) σ H Q E = denE g a σ H (fun x H1 => denE g b σ H1 (fun y H2 => cmpW op x y H2 Q) E) E := rfl
theorem e_chn {o1 o2 : CmpOp} : denE g (.chn o1 o2 a b c) σ H Q E = denE g a σ H (fun x H1 => denE g b σ H1 (fun y H2 => cmpW0 o1 x y H2 fun z H3 => ∃ k, z = .bl k ∧ (if k = true then denE g c σ H3 (fun w H4 => cmpW0 o2 y w H4 Q) E else Q (.bl false) H3)) E) E := rfl
theorem e_andV : denE g (.andV a b) σ H Q E = denE g a σ H (fun x H1 => ∃ c, x = .bl c ∧ if c = true then denE g b σ H1 Q E else Q (.bl false) H1) E := rfl
theorem e_orV : denE g (.orV a b) σ H Q E = denE g a σ H (fun x H1 => ∃ c, x = .bl c ∧ if c = true then Q (.bl true) H1 else denE g b σ H1 Q E) E := rfl
theorem e_notV : denE g (.notV a) σ H Q E = denE g a σ H (fun x H1 => ∃ c, x = .bl c ∧ Q (.bl (!c)) H1) E := rfl
theorem e_ife {t : CT} : denE g (.ife t a b) σ H Q E = denT g t σ H (fun c H1 => if c = true then denE g a σ H1 Q E else denE g b σ H1 Q E) E := rfl
theorem e_fld : denE g (.fld e f) σ H Q E = denE g e σ H (fun x H1 => ∃ a, x = .ref a ∧ ∃ C fs, H1 a = some (.ins C fs) ∧ g.fld C f ∧ ∃ w, fs.lookup f = some w ∧ Q w H1) E := by
  show denE g e σ H _ E = _
  congr 1
  funext x H1
  cases x <;> simp [fldW]
theorem e_ix : denE g (.ix e i) σ H Q E = denE g e σ H (fun x H1 => denE g i σ H1 (fun y H2 => ixd x y H2 Q) E) E := rfl
theorem e_slc {lo hi : CO} : denE g (.slc e lo hi) σ H Q E = denE g e σ H (fun x H1 => denO g lo σ H1 (fun l H2 => denO g hi σ H2 (fun u H3 => slW x l u H3 Q) E) E) E := rfl
theorem e_rev : denE g (.rev e) σ H Q E = denE g e σ H (fun x H1 => ∃ xs, seqL H1 x xs ∧ newL xs.reverse H1 Q) E := rfl
theorem e_bcl : denE g (.bcl f es) σ H Q E = denA g es σ H (fun ws H1 => callW f ws H1 Q) E := rfl
theorem e_isi {T : String} : denE g (.isi e T) σ H Q E = denE g e σ H (fun x H1 => ∃ t, tyW H1 x = some t ∧ ∃ b, kitB t T = some b ∧ Q (.bl b) H1) E := by
  show denE g e σ H _ E = _
  congr 1
  funext x H1
  simp
theorem e_call : denE g (.call f es) σ H Q E = ∃ sp, g.fn f sp ∧ denA g es σ H (fun ws H1 => sp ws H1 Q E) E := rfl
theorem e_mk : denE g (.mk f es) σ H Q E = ∃ C sp, g.made f C sp ∧ denA g es σ H (fun ws H1 => ∀ x, H1 x = none → sp (.ref x :: ws) (updW H1 x (.ins C [])) (fun v H2 => v = .non ∧ Q (.ref x) H2) E) E := rfl
theorem e_mth : denE g (.mth e m es) σ H Q E = denE g e σ H (fun x H1 => ∃ a, x = .ref a ∧ ∃ C fs, H1 a = some (.ins C fs) ∧ ∃ sp, g.mth C m sp ∧ fs.lookup m = none ∧ denA g es σ H1 (fun ws H2 => sp (x :: ws) H2 Q E) E) E := by
  show denE g e σ H _ E = _
  congr 1
  funext x H1
  simp
theorem e_app : denE g (.app o e) σ H Q E = denE g o σ H (fun x H1 => isLst x H1 ∧ denE g e σ H1 (fun y H2 => ∃ a, x = .ref a ∧ ∃ xs, H2 a = some (.lst xs) ∧ xs.length < sizeLine ∧ Q .non (updW H2 a (.lst (xs ++ [y])))) E) E := by
  show denE g o σ H _ E = _
  congr 1
  funext x H1
  cases x <;> simp [appW]
theorem e_ext : denE g (.ext o e) σ H Q E = denE g o σ H (fun x H1 => isLst x H1 ∧ denE g e σ H1 (fun y H2 => ∃ a, x = .ref a ∧ ∃ xs, H2 a = some (.lst xs) ∧ ∃ ys, seqM H2 y ys ∧ xs.length + ys.length ≤ sizeLine ∧ Q .non (updW H2 a (.lst (xs ++ ys)))) E) E := by
  show denE g o σ H _ E = _
  congr 1
  funext x H1
  cases x <;> simp [extW]
theorem e_pop : denE g (.pop o e) σ H Q E = denE g o σ H (fun x H1 => isLst x H1 ∧ denE g e σ H1 (fun y H2 => ∃ a, x = .ref a ∧ ∃ i, y = .int i ∧ ∃ xs, H2 a = some (.lst xs) ∧ ∃ k : Nat, i = (k : Nat) ∧ i < 2 ^ 63 ∧ ∃ w, xs[k]? = some w ∧ Q w (updW H2 a (.lst (xs.eraseIdx k)))) E) E := by
  show denE g o σ H _ E = _
  congr 1
  funext x H1
  have : ∀ y H2, popW x y H2 Q = ∃ a, x = .ref a ∧ ∃ i, y = .int i ∧ ∃ xs, H2 a = some (.lst xs) ∧ ∃ k : Nat, i = (k : Nat) ∧ i < 2 ^ 63 ∧ ∃ w, xs[k]? = some w ∧ Q w (updW H2 a (.lst (xs.eraseIdx k))) := fun y H2 => by
    cases x <;> cases y <;> simp [popW]
  simp only [this]
theorem e_get1 : denE g (.get1 o k) σ H Q E = denE g o σ H (fun x H1 => isDct x H1 ∧ denE g k σ H1 (fun y H2 => ∃ a, x = .ref a ∧ ∃ kvs, H2 a = some (.dct kvs) ∧ ∃ j, keyW y = some j ∧ Q ((valW kvs j).getD .non) H2) E) E := by
  simp only [denE, exists_and_left]
theorem e_get2 : denE g (.get2 o k e) σ H Q E = denE g o σ H (fun x H1 => isDct x H1 ∧ denE g k σ H1 (fun y H2 => denE g e σ H2 (fun z H3 => ∃ a, x = .ref a ∧ ∃ kvs, H3 a = some (.dct kvs) ∧ ∃ j, keyW y = some j ∧ Q ((valW kvs j).getD z) H3) E) E) E := by
  simp only [denE, exists_and_left]
theorem e_setd : denE g (.setd o k e) σ H Q E = denE g o σ H (fun x H1 => isDct x H1 ∧ denE g k σ H1 (fun y H2 => denE g e σ H2 (fun z H3 => ∃ a, x = .ref a ∧ ∃ kvs, H3 a = some (.dct kvs) ∧ ∃ j, keyW y = some j ∧ kvs.length < sizeLine ∧
      (∀ v, valW kvs j = some v → Q v H3) ∧ (valW kvs j = none → Q z (updW H3 a (.dct (putKW kvs j z))))) E) E) E := by
  simp only [denE, exists_and_left]
theorem e_lcm {it : CI} {t : CU} : denE g (.lcm e n it t) σ H Q E = denI g it σ H (fun items stay H1 => lcmW σ n stay (denU g t) (denE g e) items H1 Q) E := rfl
theorem e_dnew : denE g .dnew σ H Q E = ∀ p, H p = none → Q (.ref p) (updW H p (.dct [])) := rfl
theorem e_dct {ps : CPs} : denE g (.dct ps) σ H Q E = ∀ p, H p = none → denP g ps σ (updW H p (.dct [])) (fun kvs H2 => H2 p = some (.dct []) ∧ kvs.length ≤ 15 ∧ Q (.ref p) (updW H2 p (.dct (kvs.foldl (fun acc kv => putKW acc kv.1 kv.2) [])))) E := rfl
theorem e_lrng : denE g (.lrng a) σ H Q E = denE g a σ H (fun x H1 => ∃ n : Nat, x = .int n ∧ n ≤ 1000 ∧ newL (rngW 0 n 1) H1 Q) E := rfl
theorem e_anil {QA : List W → Hw → Prop} : denA g .nil σ H QA E = QA [] H := rfl
theorem e_acons {QA : List W → Hw → Prop} : denA g (.cons e es) σ H QA E = denE g e σ H (fun x H1 => denA g es σ H1 (fun xs H2 => QA (x :: xs) H2) E) E := rfl
theorem e_pnil {QA : List (Key × W) → Hw → Prop} : denP g .nil σ H QA E = QA [] H := rfl
theorem e_pcons {QA : List (Key × W) → Hw → Prop} {ps : CPs} : denP g (.cons k e ps) σ H QA E = denE g k σ H (fun x H1 => denE g e σ H1 (fun y H2 => denP g ps σ H2 (fun ps H3 => ∃ j, keyW x = some j ∧ QA ((j, y) :: ps) H3) E) E) E := rfl
theorem e_ono {QO : Option Int → Hw → Prop} : denO g .no σ H QO E = QO none H := rfl
theorem e_oso {QO : Option Int → Hw → Prop} : denO g (.so e) σ H QO E = denE g e σ H (fun x H1 => ∃ i, x = .int i ∧ QO (some i) H1) E := rfl
theorem e_ands {s t : CT} {QB : Bool → Hw → Prop} : denT g (.ands s t) σ H QB E = denT g s σ H (fun c H1 => if c = true then denT g t σ H1 QB E else QB false H1) E := rfl
theorem e_ors {s t : CT} {QB : Bool → Hw → Prop} : denT g (.ors s t) σ H QB E = denT g s σ H (fun c H1 => if c = true then QB true H1 else denT g t σ H1 QB E) E := rfl
theorem e_tnot {s : CT} {QB : Bool → Hw → Prop} : denT g (.not s) σ H QB E = denT g s σ H (fun c H1 => QB (!c) H1) E := rfl
theorem e_tru {QB : Bool → Hw → Prop} : denT g (.tru e) σ H QB E = denE g e σ H (fun x H1 => ∃ b, x = .bl b ∧ QB b H1) E := rfl
theorem e_iex {R : List W → (Hw → Prop) → Hw → Prop} : denI g (.ex e) σ H R E = denE g e σ H (fun x H1 => ∃ xs, seqA H1 x xs ∧ R xs (fun H => seqA H x xs) H1) E := rfl
theorem e_ir1 {R : List W → (Hw → Prop) → Hw → Prop} : denI g (.r1 a) σ H R E = denE g a σ H (fun x H1 => ∃ n : Int, x = .int n ∧ -(2 ^ 62) ≤ n ∧ n < 2 ^ 62 ∧ R (rngW 0 n.toNat 1) (fun _ => True) H1) E := rfl
theorem e_ir2 {R : List W → (Hw → Prop) → Hw → Prop} : denI g (.r2 a b) σ H R E = denE g a σ H (fun x H1 => denE g b σ H1 (fun y H2 => ∃ i j : Int, x = .int i ∧ y = .int j ∧ (-(2 ^ 62) ≤ i ∧ i < 2 ^ 62 ∧ -(2 ^ 62) ≤ j ∧ j < 2 ^ 62) ∧ R (rngW i (j - i).toNat 1) (fun _ => True) H2) E) E := rfl
theorem e_ir3 {R : List W → (Hw → Prop) → Hw → Prop} : denI g (.r3 a b c) σ H R E = denE g a σ H (fun x H1 => denE g b σ H1 (fun y H2 => denE g c σ H2 (fun z H3 => ∃ i j k n, x = .int i ∧ y = .int j ∧ z = .int k ∧ RgC i j k n ∧ R (rngW i n k) (fun _ => True) H3) E) E) E := rfl
theorem e_uno {QB : Bool → Hw → Prop} : denU g .no σ H QB E = QB true H := rfl
theorem e_uso {t : CT} {QB : Bool → Hw → Prop} : denU g (.so t) σ H QB E = denT g t σ H QB E := rfl
/-! statements -/
theorem e_set : denS g (.set n e) D σ H = denE g e σ H (fun x H1 => D.nx (σ.set n (some x)) H1) fun C H1 => D.ex C σ H1 := rfl
theorem e_fset : denS g (.fset o f e) D σ H = denE g e σ H (fun y H1 => denE g o σ H1 (fun x H2 => ∃ a, x = .ref a ∧ ∃ C fs, H2 a = some (.ins C fs) ∧ g.fld C f ∧ fs.length < 1000 ∧ D.nx σ (updW H2 a (.ins C (putFW f y fs)))) fun C H1 => D.ex C σ H1) fun C H1 => D.ex C σ H1 := by
  simp only [denS, exists_and_left]
theorem e_iset : denS g (.iset o i e) D σ H = denE g e σ H (fun y H1 => denE g o σ H1 (fun x H2 => denE g i σ H2 (fun z H3 => isetW x z y H3 fun H4 => D.nx σ H4) fun C H1 => D.ex C σ H1) fun C H1 => D.ex C σ H1) fun C H1 => D.ex C σ H1 := by
  simp only [denS, exists_and_left, isetW]
theorem e_isR {p : Addr} {z y : W} {K : Hw → Prop} : isetW (.ref p) z y H K = iseto (H p) p z y H K := by
  unfold isetW iseto
  cases h : H p with
  | none => simp [h]
  | some o => cases o <;> simp [h]
theorem e_isD1 {p : Addr} {z y : W} {K : Hw → Prop} {kvs : List (Key × W)} : iseto (some (.dct kvs)) p z y H K = ∃ j, keyW z = some j ∧ kvs.length < sizeLine ∧ K (updW H p (.dct (putKW kvs j y))) := rfl
theorem e_isL1 {p : Addr} {z y : W} {K : Hw → Prop} {xs : List W} : iseto (some (.lst xs)) p z y H K = ∃ j, z = .int j ∧ ∃ n, ixN xs.length j = some n ∧ K (updW H p (.lst (xs.set n y))) := rfl
theorem e_unp {is : List Nat} : denS g (.unp is e) D σ H = denE g e σ H (fun x H1 => ∃ ws, x = .tup ws ∧ ws.length = is.length ∧ D.nx (setAll is ws σ) H1) fun C H1 => D.ex C σ H1 := rfl
theorem e_expr : denS g (.expr e) D σ H = denE g e σ H (fun _ H1 => D.nx σ H1) fun C H1 => D.ex C σ H1 := rfl
theorem e_ret : denS g (.ret e) D σ H = denE g e σ H D.rt fun C H1 => D.ex C σ H1 := rfl
theorem e_retN : denS g .retN D σ H = D.rt .non H := rfl
theorem e_ifs {t : CT} {p q : List CS} : denS g (.ifs t p q) D σ H = denT g t σ H (fun c H1 => if c = true then denB g p D σ H1 else denB g q D σ H1) fun C H1 => D.ex C σ H1 := rfl
theorem e_for_ {it : CI} {p : List CS} : denS g (.for_ n it p) D σ H = denI g it σ H (fun xs stay H1 => loopW stay n (denB g p) D xs σ H1) fun C H1 => D.ex C σ H1 := rfl
theorem e_whl {t : CT} {p : List CS} : denS g (.whl t p) D σ H = ∃ n, whileW (denT g t) (denB g p) D n σ H := rfl
theorem e_raise : denS g (.raise x) D σ H = ∃ C, g.exc x C ∧ D.ex C σ H := rfl
theorem e_try {p : List CS} {w : W} : denS g (.try_ p x w) D σ H = ((∃ C k, g.exm C x k) ∧ denB g p { D with ex := fun C σ1 H1 => ∃ k, g.exm C x k ∧ (k = true → D.rt w H1) ∧ (k = false → D.ex C σ1 H1) } σ H) := rfl
theorem e_pass : denS g .pass D σ H = D.nx σ H := rfl
theorem e_bnil : denB g [] D σ H = D.nx σ H := rfl
theorem e_bcons {s : CS} {r : List CS} : denB g (s :: r) D σ H = denS g s { D with nx := denB g r D } σ H := rfl
theorem e_loop0 {stay : Hw → Prop} {t : TSW} : loopW stay n t D [] σ H = (stay H ∧ D.nx σ H) := rfl
theorem e_loop1 {stay : Hw → Prop} {t : TSW} {v : W} {r : List W} : loopW stay n t D (v :: r) σ H = (stay H ∧ t { D with nx := loopW stay n t D r, ct := loopW stay n t D r, bk := D.nx } (σ.set n (some v)) H) := rfl
theorem e_comp0 {p : Addr} {stay : Hw → Prop} {t : TTW} {u : TEW} {K : Hw → Prop} : compGo p σ n stay t u K [] H = (stay H ∧ K H) := rfl
theorem e_comp1 {p : Addr} {stay : Hw → Prop} {t : TTW} {u : TEW} {K : Hw → Prop} {v : W} {r : List W} : compGo p σ n stay t u K (v :: r) H = (stay H ∧ t (σ.set n (some v)) H (fun b H1 => if b = true then u (σ.set n (some v)) H1 (fun y H2 => ∃ acc, H2 p = some (.lst acc) ∧ acc.length < sizeLine ∧ compGo p σ n stay t u K r (updW H2 p (.lst (acc ++ [y])))) (fun _ _ => False)
      else compGo p σ n stay t u K r H1) (fun _ _ => False)) := rfl
/-! operators -/
theorem e_addI {i j : Int} : binW .Add (.int i) (.int j) H Q = Q (.int (i + j)) H := rfl
theorem e_addS {i j : Str} : binW .Add (.str i) (.str j) H Q = (i.length + j.length ≤ sizeLine ∧ Q (.str (i ++ j)) H) := rfl
theorem e_addF {xs ys : List W} : binW .Add (.fls xs) (.fls ys) H Q = (xs.length + ys.length ≤ sizeLine ∧ newL (xs ++ ys) H Q) := by
  show (∃ xs' ys', xs = xs' ∧ ys = ys' ∧ _) = _
  simp
theorem e_sub {i j : Int} : binW .Sub (.int i) (.int j) H Q = Q (.int (i - j)) H := propext ⟨fun h => h.2, fun h => ⟨trivial, h⟩⟩
theorem e_mulI {i j : Int} : binW .Mult (.int i) (.int j) H Q = (CMul i j ∧ Q (.int (i * j)) H) := rfl
theorem e_div {i j : Int} : binW .FloorDiv (.int i) (.int j) H Q = (CDiv i j ∧ Q (.int (i / j)) H) := rfl
theorem e_mod {i j : Int} : binW .Mod (.int i) (.int j) H Q = (0 < j ∧ Q (.int (i % j)) H) := rfl
theorem e_pow {i j : Int} : binW .Pow (.int i) (.int j) H Q = (CPow i j ∧ Q (.int (i ^ j.toNat)) H) := rfl
theorem e_ltI {i j : Int} : cmpW .Lt (.int i) (.int j) H Q = Q (.bl (decide (i < j))) H := rfl
theorem e_leI {i j : Int} : cmpW .LtE (.int i) (.int j) H Q = Q (.bl (decide (i ≤ j))) H := rfl
theorem e_gtI {i j : Int} : cmpW .Gt (.int i) (.int j) H Q = Q (.bl (decide (j < i))) H := rfl
theorem e_geI {i j : Int} : cmpW .GtE (.int i) (.int j) H Q = Q (.bl (decide (j ≤ i))) H := rfl
theorem e_eqI {i j : Int} : cmpW .Eq (.int i) (.int j) H Q = Q (.bl (decide (i = j))) H := rfl
theorem e_neI {i j : Int} : cmpW .NotEq (.int i) (.int j) H Q = Q (.bl (!decide (i = j))) H := rfl
theorem e_eqS {i j : Str} : cmpW .Eq (.str i) (.str j) H Q = Q (.bl (decide (i = j))) H := rfl
theorem e_neS {i j : Str} : cmpW .NotEq (.str i) (.str j) H Q = Q (.bl (!decide (i = j))) H := rfl
theorem e_eqB {i j : Bool} : cmpW .Eq (.bl i) (.bl j) H Q = Q (.bl (i == j)) H := rfl
theorem e_neB {i j : Bool} : cmpW .NotEq (.bl i) (.bl j) H Q = Q (.bl (!(i == j))) H := rfl
def isNon : W → Bool
  | .non => true
  | _ => false
theorem e_isN {w : W} : cmpW .Is w .non H Q = Q (.bl (isNon w)) H := by cases w <;> rfl
theorem e_isntN {w : W} : cmpW .IsNot w .non H Q = Q (.bl (!isNon w)) H := by cases w <;> rfl
def isB (b : Bool) : W → Bool
  | .bl a => a == b
  | _ => false
def notScr : W → Bool
  | .scr _ => false
  | _ => true
theorem e_isB {w : W} {b : Bool} : cmpW .Is w (.bl b) H Q = (notScr w = true ∧ Q (.bl (isB b w)) H) := by cases w <;> simp [cmpW, isW, isB, notScr]
theorem e_isntB {w : W} {b : Bool} : cmpW .IsNot w (.bl b) H Q = (notScr w = true ∧ Q (.bl (!isB b w)) H) := by cases w <;> simp [cmpW, isW, isB, notScr]
theorem e_len {w : W} : callW "len" [w] H Q = lenW w H Q := by
  unfold callW lenW
  rw [if_pos rfl]
  simp
theorem e_lenF {l : List W} : lenW (.fls l) H Q = Q (.int l.length) H := by unfold lenW; simp [seqA, seqL]
theorem e_lenT {l : List W} : lenW (.tup l) H Q = Q (.int l.length) H := by unfold lenW; simp [seqA]
theorem e_lenS {l : List Int} : lenW (.scr l) H Q = Q (.int l.length) H := by unfold lenW; simp [seqA, seqL]
theorem e_lenX {x : Str} : lenW (.str x) H Q = (x.length ≤ sizeLine ∧ Q (.int x.length) H) := by unfold lenW; simp [seqA, seqL]
theorem e_lenR {p : Addr} : lenW (.ref p) H Q = leno (H p) H Q := by
  unfold lenW leno
  cases h : H p with
  | none => simp [seqA, seqL, h]
  | some o => cases o <;> simp [seqA, seqL, h]
theorem e_lenL {xs : List W} : leno (some (.lst xs)) H Q = Q (.int xs.length) H := rfl
theorem e_lenD {xs : List (Key × W)} : leno (some (.dct xs)) H Q = Q (.int xs.length) H := rfl
theorem len_of {w : W} {xs : List W} (hs : seqA H w xs) (h : Q (.int xs.length) H) : lenW w H Q := .inl ⟨xs, hs, h⟩
theorem e_list {w : W} : callW "list" [w] H Q = ∃ xs, seqA H w xs ∧ newL xs H Q := by
  unfold callW
  rw [if_neg (by decide), if_pos rfl]
  simp
theorem e_tuple {w : W} : callW "tuple" [w] H Q = tupW w H Q := by
  unfold callW tupW
  rw [if_neg (by decide), if_neg (by decide), if_pos rfl]
  simp
theorem e_tupF {l : List W} : tupW (.fls l) H Q = Q (.tup l) H := by unfold tupW; simp [seqL]
theorem e_tupT {l : List W} : tupW (.tup l) H Q = Q (.tup l) H := by unfold tupW; simp [seqL]
theorem e_tupS {l : List Int} : tupW (.scr l) H Q = Q (.tup (l.map W.int)) H := by unfold tupW; simp [seqL]
theorem e_tupR {p : Addr} : tupW (.ref p) H Q = ∃ xs, H p = some (.lst xs) ∧ Q (.tup xs) H := by unfold tupW; simp [seqL]
theorem sorted_of {w : W} (h : (∃ ns : List Int, seqL H w (ns.map W.int) ∧ ∀ ns' : List Int, ns'.Perm ns → ns'.Pairwise (· ≤ ·) → newL (ns'.map W.int) H Q) ∨
      ∃ (a : Addr) (kvs : List (Key × W)) (ks : List Int), w = .ref a ∧ H a = some (.dct kvs) ∧ kvs.map (·.1) = ks.map Sum.inl ∧ ks.length < 64 ∧ ∀ ns' : List Int, ns'.Perm ks → ns'.Pairwise (· ≤ ·) → newL (ns'.map W.int) H Q) : callW "sorted" [w] H Q := by
  unfold callW
  rw [if_neg (by decide), if_neg (by decide), if_neg (by decide), if_pos rfl]
  exact ⟨w, rfl, h⟩
theorem e_max2 {i j : Int} : callW "max" [.int i, .int j] H Q = Q (.int (max i j)) H := by
  unfold callW
  rw [if_neg (by decide), if_neg (by decide), if_neg (by decide), if_neg (by decide), if_pos rfl]
  have e : maxI i j = max i j := by unfold maxI; omega
  rw [← e]
  refine propext ⟨fun h => ?_, fun h => .inl ⟨i, j, rfl, h⟩⟩
  rcases h with ⟨_, _, q, h⟩ | ⟨_, _, q, _⟩
  · cases q; exact h
  · cases q
theorem e_max1 {w : W} : callW "max" [w] H Q = ∃ ns : List Int, seqL H w (ns.map W.int) ∧ 0 < ns.length ∧ ∀ m, m ∈ ns → (∀ y, y ∈ ns → y ≤ m) → Q (.int m) H := by
  unfold callW
  rw [if_neg (by decide), if_neg (by decide), if_neg (by decide), if_neg (by decide), if_pos rfl]
  simp
theorem e_min2 {i j : Int} : callW "min" [.int i, .int j] H Q = Q (.int (min i j)) H := by
  unfold callW
  rw [if_neg (by decide), if_neg (by decide), if_neg (by decide), if_neg (by decide), if_neg (by decide), if_pos rfl]
  have e : minI i j = min i j := by unfold minI; omega
  rw [← e]
  refine propext ⟨fun h => ?_, fun h => ⟨i, j, rfl, h⟩⟩
  obtain ⟨_, _, q, h⟩ := h
  cases q; exact h
theorem e_int1 {w : W} : callW "int" [w] H Q = toInt w H Q := by
  unfold callW toInt
  rw [if_neg (by decide), if_neg (by decide), if_neg (by decide), if_neg (by decide), if_neg (by decide), if_neg (by decide), if_pos rfl]
  simp
theorem e_intB {b : Bool} : toInt (.bl b) H Q = Q (.int (if b = true then 1 else 0)) H := by unfold toInt; simp
theorem e_intI {b : Int} : toInt (.int b) H Q = Q (.int b) H := by unfold toInt; simp
theorem e_seqR {p : Addr} {xs : List W} : seqA H (.ref p) xs = (H p = some (.lst xs)) := rfl
theorem e_seqF {l xs : List W} : seqA H (.fls l) xs = (l = xs) := rfl
theorem e_seqT {l xs : List W} : seqA H (.tup l) xs = (l = xs) := rfl
theorem e_seqS {l : List Int} {xs : List W} : seqA H (.scr l) xs = (xs = l.map W.int) := rfl
theorem e_seqLR {p : Addr} {xs : List W} : seqL H (.ref p) xs = (H p = some (.lst xs)) := rfl
theorem e_seqLF {l xs : List W} : seqL H (.fls l) xs = (l = xs) := rfl
theorem e_seqLS {l : List Int} {xs : List W} : seqL H (.scr l) xs = (xs = l.map W.int) := rfl
theorem e_seqLT {l xs : List W} : seqL H (.tup l) xs = False := rfl
theorem e_seqMR {p : Addr} {xs : List W} : seqM H (.ref p) xs = (H p = some (.lst xs)) := rfl
theorem e_seqMF {l xs : List W} : seqM H (.fls l) xs = (l = xs) := rfl
theorem e_isL {p : Addr} : isLst (.ref p) H = ∃ xs, H p = some (.lst xs) := rfl
theorem e_isLF {l : List W} : isLst (.fls l) H = True := propext ⟨fun _ => trivial, fun _ => ⟨l, rfl⟩⟩
theorem e_isD {p : Addr} : isDct (.ref p) H = ∃ kvs, H p = some (.dct kvs) := by unfold isDct; simp
theorem ixd_of {w : W} {l : List W} {j : Int} {v : W} (hs : seqA H w l) (e : atI l j = some v) (h : Q v H) : ixd w (.int j) H Q := by
  refine .inl ?_
  cases w <;> first | exact ⟨l, v, hs, e, h⟩ | exact (show False from hs).elim
theorem e_ixF {l : List W} {j : Int} : ixd (.fls l) (.int j) H Q = ∃ v, atI l j = some v ∧ Q v H := by
  unfold ixd
  show ((∃ xs v, l = xs ∧ _) ∨ _) = _
  simp [dgetW]
theorem e_ixT {l : List W} {j : Int} : ixd (.tup l) (.int j) H Q = ∃ v, atI l j = some v ∧ Q v H := by
  unfold ixd
  show ((∃ xs v, l = xs ∧ _) ∨ _) = _
  simp [dgetW]
theorem e_ixS {l : List Int} {j : Int} : ixd (.scr l) (.int j) H Q = ∃ v, atI (l.map W.int) j = some v ∧ Q v H := by
  unfold ixd
  show ((∃ xs v, xs = l.map W.int ∧ _) ∨ _) = _
  simp [dgetW]
theorem e_ixX {z : Str} {j : Int} : ixd (.str z) (.int j) H Q = ∃ c, z.length ≤ sizeLine ∧ atI z.cps.toList j = some c ∧ Q (.str ⟨#[c]⟩) H := by
  unfold ixd
  show ((∃ c, z.length ≤ sizeLine ∧ _) ∨ _) = _
  simp [dgetW]
theorem e_ixR {p : Addr} {y : W} : ixd (.ref p) y H Q = ixo (H p) y H Q := by
  unfold ixd ixo dgetW
  have e : ∀ y, ixW (.ref p) y H Q = ∃ j, y = .int j ∧ ∃ xs v, H p = some (.lst xs) ∧ atI xs j = some v ∧ Q v H := fun y => by
    cases y <;> simp [ixW, seqA, seqL]
  rw [e]
  cases h : H p with
  | none => simp [h]
  | some o => cases o <;> simp [h]
theorem e_ixL {xs : List W} {j : Int} : ixo (some (.lst xs)) (.int j) H Q = ∃ v, atI xs j = some v ∧ Q v H := by unfold ixo; simp
theorem e_ixD {kvs : List (Key × W)} {y : W} : ixo (some (.dct kvs)) y H Q = ∃ k, keyW y = some k ∧ ∃ v, valW kvs k = some v ∧ Q v H := rfl
theorem e_tyN : tyW H .non = some "NoneType" := rfl
theorem e_tyB {b : Bool} : tyW H (.bl b) = some "bool" := rfl
theorem e_tyI {b : Int} : tyW H (.int b) = some "int" := rfl
theorem e_tyS {b : Str} : tyW H (.str b) = some "str" := rfl
theorem e_tyT {b : List W} : tyW H (.tup b) = some "tuple" := rfl
theorem e_tyF {b : List W} : tyW H (.fls b) = some "list" := rfl
theorem ty_lst {p : Addr} {xs : List W} (h : H p = some (.lst xs)) : tyW H (.ref p) = some "list" := by unfold tyW; simp only [h]
theorem ty_dct {p : Addr} {xs : List (Key × W)} (h : H p = some (.dct xs)) : tyW H (.ref p) = some "dict" := by unfold tyW; simp only [h]
theorem ty_ref {p : Addr} {t : String} (h : tyW H (.ref p) = some t) : t = "list" ∨ t = "dict" := by
  cases hh : H p with
  | none => simp [tyW, hh] at h
  | some o => cases o <;> simp [tyW, hh] at h <;> simp [← h]
theorem e_slF {l : List W} {lo hi : Option Int} : slW (.fls l) lo hi H Q = newL (cutW l lo hi) H Q := by
  show (∃ xs, l = xs ∧ _) = _
  simp
theorem e_slR {p : Addr} {lo hi : Option Int} : slW (.ref p) lo hi H Q = ∃ xs, H p = some (.lst xs) ∧ newL (cutW xs lo hi) H Q := rfl
theorem e_slS {l : List Int} {lo hi : Option Int} : slW (.scr l) lo hi H Q = newL (cutW (l.map W.int) lo hi) H Q := by
  show (∃ xs, xs = l.map W.int ∧ _) = _
  simp
theorem e_slT {l : List W} {lo hi : Option Int} : slW (.tup l) lo hi H Q = (¬ (HT.sIx l.length 0 lo = 0 ∧ HT.sIx l.length l.length hi = l.length) ∧ Q (.tup (cutW l lo hi)) H) := rfl
end
section
theorem kb_NoneType_int : kitB "NoneType" "int" = some false := by decide +kernel
theorem kb_NoneType_bool : kitB "NoneType" "bool" = some false := by decide +kernel
theorem kb_NoneType_list : kitB "NoneType" "list" = some false := by decide +kernel
theorem kb_NoneType_tuple : kitB "NoneType" "tuple" = some false := by decide +kernel
theorem kb_NoneType_str : kitB "NoneType" "str" = some false := by decide +kernel
theorem kb_bool_int : kitB "bool" "int" = some true := by decide +kernel
theorem kb_bool_bool : kitB "bool" "bool" = some true := by decide +kernel
theorem kb_bool_list : kitB "bool" "list" = some false := by decide +kernel
theorem kb_bool_tuple : kitB "bool" "tuple" = some false := by decide +kernel
theorem kb_bool_str : kitB "bool" "str" = some false := by decide +kernel
theorem kb_int_int : kitB "int" "int" = some true := by decide +kernel
theorem kb_int_bool : kitB "int" "bool" = some false := by decide +kernel
theorem kb_int_list : kitB "int" "list" = some false := by decide +kernel
theorem kb_int_tuple : kitB "int" "tuple" = some false := by decide +kernel
theorem kb_int_str : kitB "int" "str" = some false := by decide +kernel
theorem kb_str_int : kitB "str" "int" = some false := by decide +kernel
theorem kb_str_bool : kitB "str" "bool" = some false := by decide +kernel
theorem kb_str_list : kitB "str" "list" = some false := by decide +kernel
theorem kb_str_tuple : kitB "str" "tuple" = some false := by decide +kernel
theorem kb_str_str : kitB "str" "str" = some true := by decide +kernel
theorem kb_tuple_int : kitB "tuple" "int" = some false := by decide +kernel
theorem kb_tuple_bool : kitB "tuple" "bool" = some false := by decide +kernel
theorem kb_tuple_list : kitB "tuple" "list" = some false := by decide +kernel
theorem kb_tuple_tuple : kitB "tuple" "tuple" = some true := by decide +kernel
theorem kb_tuple_str : kitB "tuple" "str" = some false := by decide +kernel
theorem kb_list_int : kitB "list" "int" = some false := by decide +kernel
theorem kb_list_bool : kitB "list" "bool" = some false := by decide +kernel
theorem kb_list_list : kitB "list" "list" = some true := by decide +kernel
theorem kb_list_tuple : kitB "list" "tuple" = some false := by decide +kernel
theorem kb_list_str : kitB "list" "str" = some false := by decide +kernel
theorem kb_dict_int : kitB "dict" "int" = some false := by decide +kernel
theorem kb_dict_bool : kitB "dict" "bool" = some false := by decide +kernel
theorem kb_dict_list : kitB "dict" "list" = some false := by decide +kernel
theorem kb_dict_tuple : kitB "dict" "tuple" = some false := by decide +kernel
theorem kb_dict_str : kitB "dict" "str" = some false := by decide +kernel
end
section
variable {Q : KW} {H : Hw}
theorem z_non : frz Q .non H = Q .non H := by unfold frz; simp
theorem z_bl {b : Bool} : frz Q (.bl b) H = Q (.bl b) H := by unfold frz; simp
theorem z_int {b : Int} : frz Q (.int b) H = Q (.int b) H := by unfold frz; simp
theorem z_str {b : Str} : frz Q (.str b) H = Q (.str b) H := by unfold frz; simp
theorem z_tup {b : List W} : frz Q (.tup b) H = Q (.tup b) H := by unfold frz; simp
theorem z_fls {b : List W} : frz Q (.fls b) H = Q (.fls b) H := by unfold frz; simp
theorem z_ref {w : W} (h : Q w H) : frz Q w H := .inl h
theorem updW_twice {a : Addr} {o u : HW} : updW (updW H a o) a u = updW H a u := by
  funext b
  by_cases h : b = a
  · subst h; rw [updW_same, updW_same]
  · rw [updW_ne h, updW_ne h, updW_ne h]
theorem del_upd {a : Addr} {o : HW} (h : H a = none) : delW (updW H a o) a = H := by
  funext b
  unfold delW
  by_cases e : b = a
  · subst e; rw [if_pos rfl, h]
  · rw [if_neg e, updW_ne e]
/-- a fresh list returned, as the caller wants it -/
theorem z_new {p : Addr} {xs : List W} (h : newL xs H Q) (hp : H p = none) : frz Q (.ref p) (updW H p (.lst xs)) := by
  rcases h with h | h
  · exact .inl (h p hp)
  · exact .inr ⟨p, xs, rfl, updW_same, by rw [del_upd hp]; exact h⟩
end
theorem newR {H : Hw} {Q : KW} {xs : List W} (h : ∀ p, H p = none → Q (.ref p) (updW H p (.lst xs))) : newL xs H Q := .inl h
theorem newF {H : Hw} {Q : KW} {xs : List W} (h : Q (.fls xs) H) : newL xs H Q := .inr h
theorem end_nx {Q : KW} {E : EW} : (endOf Q E).nx = fun _ H => Q .non H := rfl
theorem end_rt {Q : KW} {E : EW} : (endOf Q E).rt = Q := rfl
theorem end_ex {Q : KW} {E : EW} : (endOf Q E).ex = fun C _ H => E C H := rfl
end WL

/-! ## Values that are data: ==, in -/
namespace WL
open PySem L2

mutual
/-- data without truths -/
def nb : W → Bool
  | .non => true
  | .int _ => true
  | .str x => PyData.strOk x
  | .tup xs => nbs xs
  | .fls xs => nbs xs
  | _ => false
def nbs : List W → Bool
  | [] => true
  | x :: xs => nb x && nbs xs
end
mutual
/-- data -/
def isD : W → Bool
  | .non => true
  | .bl _ => true
  | .int _ => true
  | .str x => PyData.strOk x
  | .tup xs => isDs xs
  | .fls xs => isDs xs
  | _ => false
def isDs : List W → Bool
  | [] => true
  | x :: xs => isD x && isDs xs
end
mutual
def dat : W → PyData
  | .bl b => .bool b
  | .int i => .int i
  | .str x => .str x
  | .tup xs => .tuple (dats xs)
  | .fls xs => .list (dats xs)
  | _ => .none
def dats : List W → List PyData
  | [] => []
  | x :: xs => dat x :: dats xs
end
mutual
theorem isD_nb : ∀ w : W, nb w = true → isD w = true
  | .non, _ => rfl
  | .int _, _ => rfl
  | .str _, h => h
  | .tup xs, h => isDs_nb xs h
  | .fls xs, h => isDs_nb xs h
  | .bl _, h => by cases h
  | .ref _, h => by cases h
  | .scr _, h => by cases h
theorem isDs_nb : ∀ ws : List W, nbs ws = true → isDs ws = true
  | [], _ => rfl
  | x :: xs, h => by
    obtain ⟨h1, h2⟩ := and_ok (show (nb x && nbs xs) = true from h)
    show (isD x && isDs xs) = true
    rw [isD_nb x h1, isDs_nb xs h2]
    rfl
end
mutual
theorem dw (H : Hw) : ∀ w : W, isD w = true → DW H w (dat w)
  | .non, _ => .non
  | .int i, _ => .int i
  | .bl b, _ => .bl b
  | .str x, h => .str x
  | .tup xs, h => .tup (dws H xs h)
  | .fls xs, h => .lst (xs := xs) rfl (dws H xs h)
  | .ref _, h => by cases h
  | .scr _, h => by cases h
theorem dws (H : Hw) : ∀ ws : List W, isDs ws = true → DWs H ws (dats ws)
  | [], _ => .nil
  | x :: xs, h => by
    obtain ⟨h1, h2⟩ := and_ok (show (isD x && isDs xs) = true from h)
    exact .cons (dw H x h1) (dws H xs h2)
end
mutual
theorem lay_dat : ∀ w : W, isD w = true → (dat w).canLay0 = true
  | .non, _ => rfl
  | .int i, _ => rfl
  | .bl b, _ => rfl
  | .str x, h => h
  | .tup xs, h => lay_dats xs h
  | .fls xs, h => lay_dats xs h
  | .ref _, h => by cases h
  | .scr _, h => by cases h
theorem lay_dats : ∀ ws : List W, isDs ws = true → PyData.canLayAll0 (dats ws) = true
  | [], _ => rfl
  | x :: xs, h => by
    obtain ⟨h1, h2⟩ := and_ok (show (isD x && isDs xs) = true from h)
    show ((dat x).canLay0 && PyData.canLayAll0 (dats xs)) = true
    rw [lay_dat x h1, lay_dats xs h2]
    rfl
end
mutual
def dep : W → Nat
  | .tup xs => deps xs + 1
  | .fls xs => deps xs + 1
  | _ => 0
def deps : List W → Nat
  | [] => 0
  | x :: xs => max (dep x) (deps xs)
end
mutual
theorem dep_dat : ∀ w : W, (dat w).depth = dep w
  | .non => rfl
  | .int i => rfl
  | .bl b => rfl
  | .str x => rfl
  | .tup xs => by
    show PyData.depthAll (dats xs) + 1 = deps xs + 1
    rw [deps_dat xs]
  | .fls xs => by
    show PyData.depthAll (dats xs) + 1 = deps xs + 1
    rw [deps_dat xs]
  | .ref _ => rfl
  | .scr _ => rfl
theorem deps_dat : ∀ ws : List W, PyData.depthAll (dats ws) = deps ws
  | [] => rfl
  | x :: xs => by
    show max (dat x).depth (PyData.depthAll (dats xs)) = max (dep x) (deps xs)
    rw [dep_dat x, deps_dat xs]
end
theorem shaped_dat {w : W} (h : isD w = true) (d : dep w ≤ 64) : SeqAt.shaped (dat w) = true := by
  unfold SeqAt.shaped
  rw [lay_dat w h, dep_dat w]
  simp [d]
mutual
theorem eqv_dat : ∀ a b : W, nb a = true → nb b = true → (PyData.eqv (dat a) (dat b) = true ↔ a = b)
  | .non, .non, _, _ => by simp [dat, PyData.eqv]
  | .non, .int _, _, _ => by simp [dat, PyData.eqv]
  | .non, .str _, _, _ => by simp [dat, PyData.eqv]
  | .non, .tup _, _, _ => by simp [dat, PyData.eqv]
  | .non, .fls _, _, _ => by simp [dat, PyData.eqv]
  | .int _, .non, _, _ => by simp [dat, PyData.eqv]
  | .int _, .int _, _, _ => by simp [dat, PyData.eqv]
  | .int _, .str _, _, _ => by simp [dat, PyData.eqv]
  | .int _, .tup _, _, _ => by simp [dat, PyData.eqv]
  | .int _, .fls _, _, _ => by simp [dat, PyData.eqv]
  | .str _, .non, _, _ => by simp [dat, PyData.eqv]
  | .str _, .int _, _, _ => by simp [dat, PyData.eqv]
  | .str _, .str _, _, _ => by simp [dat, PyData.eqv]
  | .str _, .tup _, _, _ => by simp [dat, PyData.eqv]
  | .str _, .fls _, _, _ => by simp [dat, PyData.eqv]
  | .tup _, .non, _, _ => by simp [dat, PyData.eqv]
  | .tup _, .int _, _, _ => by simp [dat, PyData.eqv]
  | .tup _, .str _, _, _ => by simp [dat, PyData.eqv]
  | .tup xs, .tup ys, h, k => by
    have := eqv_dats xs ys h k
    simp [dat, PyData.eqv, this]
  | .tup _, .fls _, _, _ => by simp [dat, PyData.eqv]
  | .fls _, .non, _, _ => by simp [dat, PyData.eqv]
  | .fls _, .int _, _, _ => by simp [dat, PyData.eqv]
  | .fls _, .str _, _, _ => by simp [dat, PyData.eqv]
  | .fls _, .tup _, _, _ => by simp [dat, PyData.eqv]
  | .fls xs, .fls ys, h, k => by
    have := eqv_dats xs ys h k
    simp [dat, PyData.eqv, this]
  | .bl _, _, h, _ => by cases h
  | .ref _, _, h, _ => by cases h
  | .scr _, _, h, _ => by cases h
  | _, .bl _, _, h => by cases h
  | _, .ref _, _, h => by cases h
  | _, .scr _, _, h => by cases h
theorem eqv_dats : ∀ xs ys : List W, nbs xs = true → nbs ys = true → (PyData.eqvAll (dats xs) (dats ys) = true ↔ xs = ys)
  | [], [], _, _ => by simp [dats, PyData.eqvAll]
  | [], _ :: _, _, _ => by simp [dats, PyData.eqvAll]
  | _ :: _, [], _, _ => by simp [dats, PyData.eqvAll]
  | x :: xs, y :: ys, h, k => by
    obtain ⟨h1, h2⟩ := and_ok (show (nb x && nbs xs) = true from h)
    obtain ⟨k1, k2⟩ := and_ok (show (nb y && nbs ys) = true from k)
    have e1 := eqv_dat x y h1 k1
    have e2 := eqv_dats xs ys h2 k2
    simp [dats, PyData.eqvAll, e1, e2]
end
/-- what a value tells when it is read: a list of ours as what it holds -/
def Ld (H : Hw) (x x' : W) : Prop := (x' = x) ∨ ∃ a xs, x = .ref a ∧ H a = some (.lst xs) ∧ x' = .fls xs
theorem Ld.refl {H : Hw} {x : W} : Ld H x x := .inl rfl
theorem Ld.ref {H : Hw} {a : Addr} {xs : List W} (h : H a = some (.lst xs)) : Ld H (.ref a) (.fls xs) := .inr ⟨a, xs, rfl, h, rfl⟩
theorem Ld.dw {H : Hw} {x x' : W} (l : Ld H x x') (h : isD x' = true) : DW H x (dat x') := by
  rcases l with rfl | ⟨a, xs, rfl, ha, rfl⟩
  · exact WL.dw H _ h
  · exact .lst (xs := xs) ha (dws H xs h)
theorem eqW_of {H : Hw} {x x' y y' : W} {P : Bool → Prop} (lx : Ld H x x') (ly : Ld H y y') (nx : nb x' = true) (ny : nb y' = true) (dx : dep x' ≤ 64) (dy : dep y' ≤ 64) (h : ∀ b : Bool, (b = true ↔ x' = y') → P b) : eqW x y H P := by
  have gen : ∃ d e, DW H x d ∧ DW H y e ∧ SeqAt.shaped d = true ∧ SeqAt.shaped e = true ∧ P (PyData.eqv d e) :=
    ⟨dat x', dat y', lx.dw (isD_nb _ nx), ly.dw (isD_nb _ ny), shaped_dat (isD_nb _ nx) dx, shaped_dat (isD_nb _ ny) dy, h _ (eqv_dat x' y' nx ny)⟩
  unfold eqW
  split
  · rcases lx with rfl | ⟨a, xs, e, _⟩
    · rcases ly with rfl | ⟨a, xs, e, _⟩
      · exact h _ (by simp)
      · cases e
    · cases e
  · rcases lx with rfl | ⟨a, xs, e, _⟩
    · rcases ly with rfl | ⟨a, xs, e, _⟩
      · exact h _ (by simp)
      · cases e
    · cases e
  · rcases lx with rfl | ⟨a, xs, e, _⟩
    · cases nx
    · cases e
  · rcases lx with rfl | ⟨a, xs, e, _⟩
    · rcases ly with rfl | ⟨a, xs, e, _⟩
      · exact h _ (by simp)
      · cases e
    · cases e
  · exact gen
theorem eq_of {H : Hw} {x x' y y' : W} {Q : KW} (lx : Ld H x x') (ly : Ld H y y') (nx : nb x' = true) (ny : nb y' = true) (dx : dep x' ≤ 64) (dy : dep y' ≤ 64) (h : ∀ b : Bool, (b = true ↔ x' = y') → Q (.bl b) H) : cmpW .Eq x y H Q :=
  eqW_of lx ly nx ny dx dy h
theorem ne_of {H : Hw} {x x' y y' : W} {Q : KW} (lx : Ld H x x') (ly : Ld H y y') (nx : nb x' = true) (ny : nb y' = true) (dx : dep x' ≤ 64) (dy : dep y' ≤ 64) (h : ∀ b : Bool, (b = true ↔ x' ≠ y') → Q (.bl b) H) : cmpW .NotEq x y H Q :=
  eqW_of lx ly nx ny dx dy fun b hb => h _ (by cases b <;> simp_all)
/-- == with truths among what is compared: what is told is asked -/
theorem eqD_of {H : Hw} {x x' y y' : W} {P : Bool → Prop} (lx : Ld H x x') (ly : Ld H y y') (nx : isD x' = true) (ny : isD y' = true) (dx : dep x' ≤ 64) (dy : dep y' ≤ 64) (h : P (PyData.eqv (dat x') (dat y'))) : eqW x y H P := by
  have gen : ∃ d e, DW H x d ∧ DW H y e ∧ SeqAt.shaped d = true ∧ SeqAt.shaped e = true ∧ P (PyData.eqv d e) :=
    ⟨dat x', dat y', lx.dw nx, ly.dw ny, shaped_dat nx dx, shaped_dat ny dy, h⟩
  unfold eqW
  split
  · rcases lx with rfl | ⟨a, xs, e, _⟩
    · rcases ly with rfl | ⟨a, xs, e, _⟩
      · exact h
      · cases e
    · cases e
  · rcases lx with rfl | ⟨a, xs, e, _⟩
    · rcases ly with rfl | ⟨a, xs, e, _⟩
      · rename_i i j
        have : (PyData.eqv (dat (.str i)) (dat (.str j))) = decide (i = j) := by
          show (i == j) = _
          by_cases q : i = j <;> simp [q]
        rw [this] at h
        exact h
      · cases e
    · cases e
  · rcases lx with rfl | ⟨a, xs, e, _⟩
    · rcases ly with rfl | ⟨a, xs, e, _⟩
      · exact h
      · cases e
    · cases e
  · rcases lx with rfl | ⟨a, xs, e, _⟩
    · rcases ly with rfl | ⟨a, xs, e, _⟩
      · exact h
      · cases e
    · cases e
  · exact gen
theorem eqd_of {H : Hw} {x x' y y' : W} {Q : KW} (lx : Ld H x x') (ly : Ld H y y') (nx : isD x' = true) (ny : isD y' = true) (dx : dep x' ≤ 64) (dy : dep y' ≤ 64) (h : Q (.bl (PyData.eqv (dat x') (dat y'))) H) : cmpW .Eq x y H Q := eqD_of (P := fun b => Q (.bl b) H) lx ly nx ny dx dy h
theorem ned_of {H : Hw} {x x' y y' : W} {Q : KW} (lx : Ld H x x') (ly : Ld H y y') (nx : isD x' = true) (ny : isD y' = true) (dx : dep x' ≤ 64) (dy : dep y' ≤ 64) (h : Q (.bl (!PyData.eqv (dat x') (dat y'))) H) : cmpW .NotEq x y H Q := eqD_of (P := fun b => Q (.bl (!b)) H) lx ly nx ny dx dy h
/-- in, over a list or tuple of data -/
theorem anyd {x : W} : ∀ {xs : List W}, nb x = true → nbs xs = true → (((dats xs).any fun z => PyData.eqv z (dat x)) = true ↔ x ∈ xs)
  | [], _, _ => by simp [dats]
  | y :: ys, h, k => by
    obtain ⟨k1, k2⟩ := and_ok (show (nb y && nbs ys) = true from k)
    have e1 := eqv_dat y x k1 h
    have e2 := anyd (xs := ys) h k2
    simp [dats, e1, e2]
    constructor
    · rintro (h | h)
      · exact .inl h.symm
      · exact .inr h
    · rintro (h | h)
      · exact .inl h.symm
      · exact .inr h
theorem inW_of {H : Hw} {x y : W} {xs : List W} {P : Bool → Prop} (ly : Ld H y (.fls xs)) (nx : nb x = true) (ny : nbs xs = true) (dx : dep x ≤ 64) (dy : deps xs ≤ 63) (h : ∀ b : Bool, (b = true ↔ x ∈ xs) → P b) : inW0 x y H P :=
  .inr ⟨dat x, dats xs, dw H x (isD_nb _ nx), ly.dw (isD_nb (.fls xs) ny), shaped_dat (isD_nb _ nx) dx, shaped_dat (w := .fls xs) (isD_nb (.fls xs) ny) (Nat.succ_le_succ dy), h _ (anyd nx ny)⟩
theorem inW0_to {H : Hw} {x y : W} {P : Bool → Prop} (h : inW0 x y H P) : inW x y H P := h.elim .inl fun h => .inr (.inl h)
theorem in_of {H : Hw} {x y : W} {xs : List W} {Q : KW} (ly : Ld H y (.fls xs)) (nx : nb x = true) (ny : nbs xs = true) (dx : dep x ≤ 64) (dy : deps xs ≤ 63) (h : ∀ b : Bool, (b = true ↔ x ∈ xs) → Q (.bl b) H) : cmpW .In x y H Q :=
  inW0_to (inW_of ly nx ny dx dy h)
theorem nin_of {H : Hw} {x y : W} {xs : List W} {Q : KW} (ly : Ld H y (.fls xs)) (nx : nb x = true) (ny : nbs xs = true) (dx : dep x ≤ 64) (dy : deps xs ≤ 63) (h : ∀ b : Bool, (b = true ↔ x ∉ xs) → Q (.bl b) H) : cmpW .NotIn x y H Q :=
  inW0_to (inW_of ly nx ny dx dy fun b hb => h _ (by cases b <;> simp_all))
/-- in a list or tuple of ints -/
theorem anyF_int {i : Int} {l : List Int} : ((l.map W.int).any fun z => eqF z (.int i)) = decide (i ∈ l) := by
  induction l with
  | nil => rfl
  | cons x xs ih =>
    rw [List.map_cons, List.any_cons, ih]
    show ((x == i) || decide (i ∈ xs)) = _
    by_cases h : x = i
    · subst h; simp
    · have : ¬ i = x := fun e => h e.symm
      simp [h, this]
theorem flat_ints {l : List Int} : (l.map W.int).all flatW = true := by
  rw [List.all_eq_true]
  intro x hx
  obtain ⟨y, _, rfl⟩ := List.mem_map.mp hx
  rfl
theorem in_ints {H : Hw} {i : Int} {y : W} {l : List Int} {Q : KW} (hs : seqA H y (l.map W.int)) (h : Q (.bl (decide (i ∈ l))) H) : cmpW .In (.int i) y H Q :=
  .inl ⟨_, hs, rfl, flat_ints, by rw [anyF_int]; exact h⟩
theorem nin_ints {H : Hw} {i : Int} {y : W} {l : List Int} {Q : KW} (hs : seqA H y (l.map W.int)) (h : Q (.bl (!decide (i ∈ l))) H) : cmpW .NotIn (.int i) y H Q :=
  .inl ⟨_, hs, rfl, flat_ints, by rw [anyF_int]; exact h⟩
/-! lists of ints as data -/
theorem nbs_ints : ∀ l : List Int, nbs (l.map W.int) = true
  | [] => rfl
  | _ :: l => nbs_ints l
theorem deps_ints : ∀ l : List Int, deps (l.map W.int) = 0
  | [] => rfl
  | x :: l => by
    show max 0 (deps (l.map W.int)) = 0
    rw [deps_ints l]
    rfl
theorem map_int_inj {l l' : List Int} : l.map W.int = l'.map W.int ↔ l = l' := by
  constructor
  · intro h
    induction l generalizing l' with
    | nil => cases l' with
      | nil => rfl
      | cons _ _ => cases h
    | cons x xs ih => cases l' with
      | nil => cases h
      | cons y ys =>
        simp only [List.map_cons, List.cons.injEq, W.int.injEq] at h
        rw [h.1, ih h.2]
  · intro h; rw [h]
theorem nbs_append : ∀ {xs ys : List W}, nbs xs = true → nbs ys = true → nbs (xs ++ ys) = true
  | [], _, _, h => h
  | x :: xs, ys, h, k => by
    obtain ⟨h1, h2⟩ := and_ok (show (nb x && nbs xs) = true from h)
    show (nb x && nbs (xs ++ ys)) = true
    rw [h1, nbs_append h2 k]
    rfl
theorem nbs_mem {xs : List W} : nbs xs = true ↔ ∀ x ∈ xs, nb x = true := by
  induction xs with
  | nil => simp [nbs]
  | cons x xs ih => simp [nbs, ih]
theorem isDs_mem {xs : List W} : isDs xs = true ↔ ∀ x ∈ xs, isD x = true := by
  induction xs with
  | nil => simp [isDs]
  | cons x xs ih => simp [isDs, ih]
theorem deps_le {xs : List W} {n : Nat} : deps xs ≤ n ↔ ∀ x ∈ xs, dep x ≤ n := by
  induction xs with
  | nil => simp [deps]
  | cons x xs ih =>
    show max (dep x) (deps xs) ≤ n ↔ _
    rw [Nat.max_le, ih]
    simp
mutual
theorem eqv_refl : ∀ w : W, PyData.eqv (dat w) (dat w) = true
  | .non => rfl
  | .int i => by simp [dat, PyData.eqv]
  | .bl b => by simp [dat, PyData.eqv]
  | .str x => by simp [dat, PyData.eqv]
  | .tup xs => eqvs_refl xs
  | .fls xs => eqvs_refl xs
  | .ref _ => rfl
  | .scr _ => rfl
theorem eqvs_refl : ∀ ws : List W, PyData.eqvAll (dats ws) (dats ws) = true
  | [] => rfl
  | x :: xs => by
    show (PyData.eqv (dat x) (dat x) && PyData.eqvAll (dats xs) (dats xs)) = true
    rw [eqv_refl x, eqvs_refl xs]
    rfl
end
/-- a comprehension whose parts change nothing -/
theorem comp_go {g : Gm} {p : Addr} {σ : Sw} {i : Nat} {stay : Hw → Prop} {t : TTW} {elt : TEW} {K : Hw → Prop} {H : Hw} (f : W → W) (keep : W → Bool) : ∀ (items : List W) (acc : List W),
    (∀ acc, stay (updW H p (.lst acc))) →
    (∀ x ∈ items, ∀ acc (QB : Bool → Hw → Prop), QB (keep x) (updW H p (.lst acc)) → t (σ.set i (some x)) (updW H p (.lst acc)) QB (fun _ _ => False)) →
    (∀ x ∈ items, keep x = true → ∀ acc (Q : KW), Q (f x) (updW H p (.lst acc)) → elt (σ.set i (some x)) (updW H p (.lst acc)) Q (fun _ _ => False)) →
    acc.length + items.length ≤ sizeLine → K (updW H p (.lst (acc ++ (items.filter keep).map f))) → compGo p σ i stay t elt K items (updW H p (.lst acc))
  | [], acc, h1, _, _, _, hk => by
    rw [List.filter_nil, List.map_nil, List.append_nil] at hk
    exact ⟨h1 _, hk⟩
  | x :: xs, acc, h1, h2, h3, hl, hk => by
    rw [List.length_cons] at hl
    refine ⟨h1 _, h2 x (List.mem_cons_self ..) acc _ ?_⟩
    cases e : keep x with
    | true =>
      rw [if_pos rfl]
      refine h3 x (List.mem_cons_self ..) e acc _ ⟨acc, updW_same, by omega, ?_⟩
      rw [updW_twice]
      refine comp_go (g := g) f keep xs (acc ++ [f x]) h1 (fun y hy => h2 y (List.mem_cons_of_mem _ hy)) (fun y hy => h3 y (List.mem_cons_of_mem _ hy)) (by rw [List.length_append, List.length_singleton]; omega) ?_
      rw [List.filter_cons, if_pos e, List.map_cons] at hk
      rw [List.append_assoc]
      exact hk
    | false =>
      rw [if_neg (by decide)]
      refine comp_go (g := g) f keep xs acc h1 (fun y hy => h2 y (List.mem_cons_of_mem _ hy)) (fun y hy => h3 y (List.mem_cons_of_mem _ hy)) (by omega) ?_
      rw [List.filter_cons, if_neg (by rw [e]; decide)] at hk
      exact hk
theorem comp_new {g : Gm} {σ : Sw} {i : Nat} {stay : Hw → Prop} {t : TTW} {elt : TEW} {Q : KW} {H : Hw} {items : List W} (f : W → W) (keep : W → Bool)
    (h1 : ∀ p acc, H p = none → stay (updW H p (.lst acc)))
    (h2 : ∀ x ∈ items, ∀ p acc (QB : Bool → Hw → Prop), H p = none → QB (keep x) (updW H p (.lst acc)) → t ((σ.set i none).set i (some x)) (updW H p (.lst acc)) QB (fun _ _ => False))
    (h3 : ∀ x ∈ items, keep x = true → ∀ p acc (Q : KW), H p = none → Q (f x) (updW H p (.lst acc)) → elt ((σ.set i none).set i (some x)) (updW H p (.lst acc)) Q (fun _ _ => False))
    (hl : items.length ≤ sizeLine) (hk : newL ((items.filter keep).map f) H Q) : lcmW σ i stay t elt items H Q := fun D hD => by
  refine comp_go (g := g) f keep items [] (fun acc => h1 D acc hD) (fun x hx acc QB => h2 x hx D acc QB hD) (fun x hx k acc Q => h3 x hx k D acc Q hD) (by simpa using hl) ?_
  rw [List.nil_append]
  rcases hk with hk | hk
  · exact .inl (hk D hD)
  · exact .inr ⟨_, updW_same, by rw [del_upd hD]; exact hk⟩
/-- .. all items -/
theorem comp_all {g : Gm} {σ : Sw} {i : Nat} {stay : Hw → Prop} {elt : TEW} {Q : KW} {H : Hw} {items : List W} (f : W → W)
    (h1 : ∀ p acc, H p = none → stay (updW H p (.lst acc)))
    (h3 : ∀ x ∈ items, ∀ p acc (Q : KW), H p = none → Q (f x) (updW H p (.lst acc)) → elt ((σ.set i none).set i (some x)) (updW H p (.lst acc)) Q (fun _ _ => False))
    (hl : items.length ≤ sizeLine) (hk : newL (items.map f) H Q) : lcmW σ i stay (denU g .no) elt items H Q :=
  comp_new (g := g) f (fun _ => true) h1 (fun _ _ _ _ _ _ h => h) (fun x hx _ => h3 x hx) hl (by rw [List.filter_eq_self.mpr (fun _ _ => rfl)]; exact hk)
/-! items of lists -/
theorem atI_nat {α : Type} {xs : List α} {n : Nat} {x : α} (h : xs[n]? = some x) : atI xs (n : Int) = some x := by
  have hl : n < xs.length := (List.getElem?_eq_some_iff.mp h).1
  unfold atI ixN
  rw [if_pos (by omega), if_pos (by omega)]
  simpa using h
theorem atI_neg1 {α : Type} {xs : List α} {x : α} (h : xs.getLast? = some x) : atI xs (-1) = some x := by
  have hl : xs ≠ [] := by rintro rfl; simp at h
  have hp : 0 < xs.length := List.length_pos_iff.mpr hl
  unfold atI ixN
  rw [List.getLast?_eq_getElem?] at h
  rw [if_neg (by omega), if_pos (by omega)]
  have : ((-1 : Int) + (xs.length : Int)).toNat = xs.length - 1 := by omega
  rw [this]
  exact h
theorem atI_mod {α : Type} {xs : List α} {m : Int} (h : m = (xs.length : Int)) (hp : 0 < xs.length) (i : Int) : ∃ v, v ∈ xs ∧ atI xs (i % m) = some v := by
  subst h
  have h0 : 0 ≤ i % (xs.length : Int) := Int.emod_nonneg _ (by omega)
  have h1 : i % (xs.length : Int) < xs.length := Int.emod_lt_of_pos _ (by omega)
  obtain ⟨n, hn⟩ := Int.eq_ofNat_of_zero_le h0
  have hl : n < xs.length := by omega
  exact ⟨xs[n], List.getElem_mem hl, by rw [hn]; exact atI_nat (List.getElem?_eq_getElem hl)⟩
theorem rngW_nat (n : Nat) : rngW 0 n 1 = (List.range n).map fun k => .int (k : Int) := by
  unfold rngW
  apply List.map_congr_left
  intro k _
  congr 1
  omega
end WL

namespace WL
open PySem L2
/- is_whole thing -/
def c_is_whole : List CS := [.ret (.andV (.isi (.var 0) "int") (.notV (.isi (.var 0) "bool")))]
/- is_list thing many ahead hand -/
def b_is_list_1 : List CS := [.ifs (.ors (.not (.tru (.call "is_whole" (.cons (.var 3) .nil)))) (.ors (.tru (.cmp .LtE (.var 3) (.var 2))) (.tru (.cmp .GtE (.var 3) (.var 1))))) [.ret (.lit (.bl false))] [], .set 2 (.var 3)]
theorem ub_is_list_1 {g : Gm} {D : EndW} {σ : Sw} {H : Hw} : denB g b_is_list_1 D σ H = denB g [.ifs (.ors (.not (.tru (.call "is_whole" (.cons (.var 3) .nil)))) (.ors (.tru (.cmp .LtE (.var 3) (.var 2))) (.tru (.cmp .GtE (.var 3) (.var 1))))) [.ret (.lit (.bl false))] [], .set 2 (.var 3)] D σ H := rfl
def c_is_list : List CS := [.ifs (.ors (.not (.tru (.isi (.var 0) "list"))) (.tru (.cmp .Eq (.var 0) (.lst .nil)))) [.ret (.lit (.bl false))] [], .set 2 (.neg (.lit (.int 1))), .for_ 3 (.ex (.var 0)) b_is_list_1, .ret (.lit (.bl true))]
/- enough members -/
def c_enough : List CS := [.ret (.bin .Add (.bin .FloorDiv (.bcl "len" (.cons (.var 0) .nil)) (.lit (.int 2))) (.lit (.int 1)))]
/- longest rows found row -/
def b_longest_1 : List CS := [.ifs (.tru (.cmp .Gt (.bcl "len" (.cons (.var 2) .nil)) (.bcl "len" (.cons (.var 1) .nil)))) [.set 1 (.var 2)] []]
theorem ub_longest_1 {g : Gm} {D : EndW} {σ : Sw} {H : Hw} : denB g b_longest_1 D σ H = denB g [.ifs (.tru (.cmp .Gt (.bcl "len" (.cons (.var 2) .nil)) (.bcl "len" (.cons (.var 1) .nil)))) [.set 1 (.var 2)] []] D σ H := rfl
def c_longest : List CS := [.set 1 (.lst .nil), .for_ 2 (.ex (.var 0)) b_longest_1, .ret (.bcl "list" (.cons (.var 1) .nil))]
/- _law_draw _law_script _law_k -/
def c_law_draw : List CS := [.ret (.ife (.tru (.cmp .Gt (.bcl "len" (.cons (.var 0) .nil)) (.var 1))) (.ix (.var 0) (.var 1)) (.lit (.int 0)))]
/- _law_is_number _law_found -/
def c_law_is_number : List CS := [.ifs (.ors (.tru (.cmp .Is (.var 0) (.lit (.bl true)))) (.tru (.cmp .Is (.var 0) (.lit (.bl false))))) [.ret (.lit (.bl false))] [], .ret (.isi (.var 0) "int")]
/- _law_hands _law_bits _law_many _law_found _law_hand -/
def b_law_hands_1 : List CS := [.ifs (.tru (.cmp .Eq (.bin .Mod (.var 0) (.lit (.int 2))) (.lit (.int 1)))) [.expr (.app (.var 2) (.var 3))] [], .set 0 (.bin .FloorDiv (.var 0) (.lit (.int 2)))]
theorem ub_law_hands_1 {g : Gm} {D : EndW} {σ : Sw} {H : Hw} : denB g b_law_hands_1 D σ H = denB g [.ifs (.tru (.cmp .Eq (.bin .Mod (.var 0) (.lit (.int 2))) (.lit (.int 1)))) [.expr (.app (.var 2) (.var 3))] [], .set 0 (.bin .FloorDiv (.var 0) (.lit (.int 2)))] D σ H := rfl
def c_law_hands : List CS := [.set 2 (.lst .nil), .for_ 3 (.r1 (.var 1)) b_law_hands_1, .ret (.var 2)]
/- _law_thing _law_script _law_hands_here _law_way _law_at _law_odd -/
def c_law_thing : List CS := [.set 2 (.bin .Mod (.call "_law_draw" (.cons (.var 0) (.cons (.lit (.int 1)) .nil))) (.lit (.int 9))), .set 3 (.bin .Mod (.call "_law_draw" (.cons (.var 0) (.cons (.lit (.int 2)) .nil))) (.bcl "len" (.cons (.var 1) .nil))), .ifs (.tru (.cmp .Eq (.var 2) (.lit (.int 1)))) [.ret (.bin .Add (.bin .Add (.slc (.var 1) .no (.so (.var 3))) (.lst (.cons (.ix (.var 1) (.neg (.lit (.int 1)))) .nil))) (.slc (.var 1) (.so (.var 3)) .no))] [], .ifs (.tru (.cmp .Eq (.var 2) (.lit (.int 2)))) [.set 4 (.ix (.lst (.cons (.neg (.lit (.int 1))) (.cons (.lit (.int 9)) (.cons (.bin .Pow (.lit (.int 10)) (.lit (.int 20))) (.cons (.lit (.bl true)) (.cons (.lit (.str "1")) (.cons (.lit .non) (.cons (.tup (.cons (.lit (.int 1)) (.cons (.lit (.int 2)) .nil))) (.cons (.lit (.bl false)) .nil))))))))) (.bin .Mod (.call "_law_draw" (.cons (.var 0) (.cons (.lit (.int 3)) .nil))) (.lit (.int 8)))), .ret (.bin .Add (.bin .Add (.slc (.var 1) .no (.so (.var 3))) (.lst (.cons (.var 4) .nil))) (.slc (.var 1) (.so (.bin .Add (.var 3) (.lit (.int 1)))) .no))] [], .ifs (.tru (.cmp .Eq (.var 2) (.lit (.int 3)))) [.ret (.ix (.lst (.cons (.bcl "tuple" (.cons (.var 1) .nil)) (.cons (.lst .nil) (.cons (.lit .non) (.cons (.lit (.int 3)) (.cons (.lit (.str "012")) (.cons (.lit (.bl true)) .nil))))))) (.bin .Mod (.call "_law_draw" (.cons (.var 0) (.cons (.lit (.int 3)) .nil))) (.lit (.int 6))))] [], .ifs (.tru (.cmp .Eq (.var 2) (.lit (.int 4)))) [.ret (.rev (.var 1))] [], .ret (.var 1)]
/- _law_due _law_thing_here _law_many _law_k -/
def b_law_due_k01_1 : List CS := [.ifs (.ors (.not (.tru (.call "_law_is_number" (.cons (.ix (.var 0) (.var 2)) .nil)))) (.ors (.tru (.cmp .Lt (.ix (.var 0) (.var 2)) (.lit (.int 0)))) (.tru (.cmp .GtE (.ix (.var 0) (.var 2)) (.var 1))))) [.ret (.lit (.bl false))] [], .ifs (.ands (.tru (.cmp .Gt (.var 2) (.lit (.int 0)))) (.tru (.cmp .LtE (.ix (.var 0) (.var 2)) (.ix (.var 0) (.bin .Sub (.var 2) (.lit (.int 1))))))) [.ret (.lit (.bl false))] []]
theorem ub_law_due_k01_1 {g : Gm} {D : EndW} {σ : Sw} {H : Hw} : denB g b_law_due_k01_1 D σ H = denB g [.ifs (.ors (.not (.tru (.call "_law_is_number" (.cons (.ix (.var 0) (.var 2)) .nil)))) (.ors (.tru (.cmp .Lt (.ix (.var 0) (.var 2)) (.lit (.int 0)))) (.tru (.cmp .GtE (.ix (.var 0) (.var 2)) (.var 1))))) [.ret (.lit (.bl false))] [], .ifs (.ands (.tru (.cmp .Gt (.var 2) (.lit (.int 0)))) (.tru (.cmp .LtE (.ix (.var 0) (.var 2)) (.ix (.var 0) (.bin .Sub (.var 2) (.lit (.int 1))))))) [.ret (.lit (.bl false))] []] D σ H := rfl
def c_law_due_k01 : List CS := [.ifs (.ors (.not (.tru (.isi (.var 0) "list"))) (.tru (.cmp .Eq (.var 0) (.lst .nil)))) [.ret (.lit (.bl false))] [], .for_ 2 (.r1 (.bcl "len" (.cons (.var 0) .nil))) b_law_due_k01_1, .ret (.lit (.bl true))]
/- law _law_script _law_hands_here _law_count _law_thing_here _law_many _law_kept _law_found _law_rows _law_k _law_due_here _law_row _law_handed _law_made _law_j -/
def b_law_k01_1 : List CS := [.expr (.app (.var 7) (.lcm (.bin .Add (.var 8) (.var 13)) 13 (.r1 (.bin .Mod (.call "_law_draw" (.cons (.var 0) (.cons (.bin .Add (.lit (.int 6)) (.var 8)) .nil))) (.lit (.int 7)))) .no))]
theorem ub_law_k01_1 {g : Gm} {D : EndW} {σ : Sw} {H : Hw} : denB g b_law_k01_1 D σ H = denB g [.expr (.app (.var 7) (.lcm (.bin .Add (.var 8) (.var 13)) 13 (.r1 (.bin .Mod (.call "_law_draw" (.cons (.var 0) (.cons (.bin .Add (.lit (.int 6)) (.var 8)) .nil))) (.lit (.int 7)))) .no))] D σ H := rfl
def b_law_k01_2 : List CS := [.ifs (.tru (.cmp .Gt (.bcl "len" (.cons (.var 10) .nil)) (.bcl "len" (.cons (.var 9) .nil)))) [.set 9 (.var 10)] []]
theorem ub_law_k01_2 {g : Gm} {D : EndW} {σ : Sw} {H : Hw} : denB g b_law_k01_2 D σ H = denB g [.ifs (.tru (.cmp .Gt (.bcl "len" (.cons (.var 10) .nil)) (.bcl "len" (.cons (.var 9) .nil)))) [.set 9 (.var 10)] []] D σ H := rfl
def c_law_k01 : List CS := [.set 1 (.call "_law_hands" (.cons (.bin .Add (.lit (.int 1)) (.bin .Mod (.call "_law_draw" (.cons (.var 0) (.cons (.lit (.int 0)) .nil))) (.lit (.int 511)))) (.cons (.lit (.int 9)) .nil))), .set 2 (.call "enough" (.cons (.bcl "list" (.cons (.var 1) .nil)) .nil)), .ifs (.ors (.not (.tru (.call "_law_is_number" (.cons (.var 2) .nil)))) (.ors (.not (.tru (.cmp .Gt (.bin .Mult (.lit (.int 2)) (.var 2)) (.bcl "len" (.cons (.var 1) .nil))))) (.tru (.cmp .Gt (.bin .Sub (.bin .Mult (.lit (.int 2)) (.var 2)) (.lit (.int 2))) (.bcl "len" (.cons (.var 1) .nil)))))) [.ret (.lit (.bl false))] [], .set 3 (.call "_law_thing" (.cons (.var 0) (.cons (.var 1) .nil))), .set 4 (.bin .Add (.lit (.int 1)) (.bin .Mod (.call "_law_draw" (.cons (.var 0) (.cons (.lit (.int 4)) .nil))) (.lit (.int 9)))), .set 5 (.ife (.tru (.isi (.var 3) "list")) (.bcl "list" (.cons (.var 3) .nil)) (.var 3)), .set 6 (.call "is_list" (.cons (.var 3) (.cons (.var 4) .nil))), .ifs (.ors (.not (.tru (.isi (.var 6) "bool"))) (.ors (.tru (.cmp .NotEq (.var 6) (.call "_law_due" (.cons (.var 3) (.cons (.var 4) .nil))))) (.tru (.cmp .NotEq (.var 3) (.var 5))))) [.ret (.lit (.bl false))] [], .set 7 (.lst .nil), .for_ 8 (.r1 (.bin .Mod (.call "_law_draw" (.cons (.var 0) (.cons (.lit (.int 5)) .nil))) (.lit (.int 6)))) b_law_k01_1, .set 9 (.lst .nil), .for_ 10 (.ex (.var 7)) b_law_k01_2, .set 11 (.lcm (.bcl "list" (.cons (.var 10) .nil)) 10 (.ex (.var 7)) .no), .set 12 (.call "longest" (.cons (.var 11) .nil)), .ifs (.ors (.not (.tru (.isi (.var 12) "list"))) (.ors (.tru (.cmp .NotEq (.var 12) (.var 9))) (.tru (.cmp .NotEq (.var 11) (.var 7))))) [.ret (.lit (.bl false))] [], .expr (.app (.var 12) (.lit (.int 9))), .ret (.cmp .Eq (.var 11) (.var 7))]
end WL
local macro_rules | `(tactic| walk_at "s") => `(tactic| try simp only [WL.e_var, WL.e_lit, WL.e_gint, WL.e_lst, WL.e_tup, WL.e_bin, WL.e_neg, WL.e_cmp, WL.e_chn, WL.e_andV, WL.e_orV, WL.e_notV, WL.e_ife, WL.e_fld, WL.e_ix, WL.e_slc, WL.e_rev, WL.e_bcl, WL.e_isi, WL.e_call, WL.e_mk, WL.e_mth, WL.e_app, WL.e_ext, WL.e_pop, WL.e_get1, WL.e_get2, WL.e_setd, WL.e_lcm, WL.e_dnew, WL.e_dct, WL.e_lrng, WL.e_anil, WL.e_acons, WL.e_pnil, WL.e_pcons, WL.e_ono, WL.e_oso, WL.e_ands, WL.e_ors, WL.e_tnot, WL.e_tru, WL.e_iex, WL.e_ir1, WL.e_ir2, WL.e_ir3, WL.e_uno, WL.e_uso,
  WL.e_set, WL.e_fset, WL.e_iset, WL.e_unp, WL.e_expr, WL.e_ret, WL.e_retN, WL.e_ifs, WL.e_for_, WL.e_whl, WL.e_raise, WL.e_try, WL.e_pass, WL.e_bnil, WL.e_bcons, WL.e_loop0, WL.e_loop1, WL.e_comp0, WL.e_comp1,
  WL.e_addI, WL.e_addS, WL.e_addF, WL.e_sub, WL.e_mulI, WL.e_div, WL.e_mod, WL.e_pow, WL.e_ltI, WL.e_leI, WL.e_gtI, WL.e_geI, WL.e_eqI, WL.e_neI, WL.e_eqS, WL.e_neS, WL.e_eqB, WL.e_neB, WL.e_isN, WL.e_isntN, WL.e_isB, WL.e_isntB, WL.isNon, WL.isB, WL.notScr,
  WL.e_len, WL.e_lenF, WL.e_lenT, WL.e_lenS, WL.e_lenX, WL.e_lenR, WL.e_lenL, WL.e_lenD, WL.e_list, WL.e_tuple, WL.e_tupF, WL.e_tupT, WL.e_tupS, WL.e_tupR, WL.e_max2, WL.e_max1, WL.e_min2, WL.e_int1, WL.e_intB, WL.e_intI, WL.e_seqR, WL.e_seqF, WL.e_seqT, WL.e_seqS, WL.e_seqLR, WL.e_seqLF, WL.e_seqLS, WL.e_seqLT, WL.e_seqMR, WL.e_seqMF, WL.e_isL, WL.e_isLF, WL.e_isD, WL.e_ixF, WL.e_ixT, WL.e_ixS, WL.e_ixR, WL.e_ixX, WL.e_ixL, WL.e_ixD, WL.e_isR, WL.e_isD1, WL.e_isL1, WL.e_tyN, WL.e_tyB, WL.e_tyI, WL.e_tyS, WL.e_tyT, WL.e_tyF, WL.e_slF, WL.e_slR, WL.e_slS, WL.e_slT,
  WL.z_non, WL.z_bl, WL.z_int, WL.z_str, WL.z_tup, WL.z_fls, WL.updW_twice, WL.end_nx, WL.end_rt, WL.end_ex, WL.keyW, WL.kb_NoneType_int, WL.kb_NoneType_bool, WL.kb_NoneType_list, WL.kb_NoneType_tuple, WL.kb_NoneType_str, WL.kb_bool_int, WL.kb_bool_bool, WL.kb_bool_list, WL.kb_bool_tuple, WL.kb_bool_str, WL.kb_int_int, WL.kb_int_bool, WL.kb_int_list, WL.kb_int_tuple, WL.kb_int_str, WL.kb_str_int, WL.kb_str_bool, WL.kb_str_list, WL.kb_str_tuple, WL.kb_str_str, WL.kb_tuple_int, WL.kb_tuple_bool, WL.kb_tuple_list, WL.kb_tuple_tuple, WL.kb_tuple_str, WL.kb_list_int, WL.kb_list_bool, WL.kb_list_list, WL.kb_list_tuple, WL.kb_list_str, WL.kb_dict_int, WL.kb_dict_bool, WL.kb_dict_list, WL.kb_dict_tuple, WL.kb_dict_str,
  List.getElem?_cons_zero, List.getElem?_cons_succ, List.set_cons_zero, List.set_cons_succ, List.cons.injEq, List.length_cons, List.length_nil, Option.some.injEq, exists_eq_left, exists_eq_left', exists_eq, exists_eq', and_assoc, exists_and_left, true_and, and_true, false_and, and_false, exists_false, or_false, false_or, WL.W.int.injEq, WL.W.scr.injEq, Int.reduceLE, Int.reduceLT, Int.reduceNeg, WL.W.bl.injEq, WL.W.str.injEq, WL.W.ref.injEq, WL.W.fls.injEq, WL.W.tup.injEq, WL.HW.lst.injEq, WL.HW.dct.injEq, WL.HW.ins.injEq, reduceCtorEq, ↓reduceIte, Bool.false_eq_true, decide_eq_true_eq, Bool.not_true, Bool.not_false, Bool.not_eq_true', decide_eq_false_iff_not, WL.updW_same])
local macro_rules | `(tactic| walk_at "x") => `(tactic| try simp only [WL.e_var, WL.e_lit, WL.e_gint, WL.e_lst, WL.e_tup, WL.e_bin, WL.e_neg, WL.e_cmp, WL.e_chn, WL.e_andV, WL.e_orV, WL.e_notV, WL.e_ife, WL.e_fld, WL.e_ix, WL.e_slc, WL.e_rev, WL.e_bcl, WL.e_isi, WL.e_call, WL.e_mk, WL.e_mth, WL.e_app, WL.e_ext, WL.e_pop, WL.e_get1, WL.e_get2, WL.e_setd, WL.e_lcm, WL.e_dnew, WL.e_dct, WL.e_lrng, WL.e_anil, WL.e_acons, WL.e_pnil, WL.e_pcons, WL.e_ono, WL.e_oso, WL.e_ands, WL.e_ors, WL.e_tnot, WL.e_tru, WL.e_iex, WL.e_ir1, WL.e_ir2, WL.e_ir3, WL.e_uno, WL.e_uso,
  WL.e_set, WL.e_fset, WL.e_iset, WL.e_unp, WL.e_expr, WL.e_ret, WL.e_retN, WL.e_ifs, WL.e_for_, WL.e_whl, WL.e_raise, WL.e_try, WL.e_pass, WL.e_bnil, WL.e_loop0, WL.e_loop1, WL.e_comp0, WL.e_comp1,
  WL.e_addI, WL.e_addS, WL.e_addF, WL.e_sub, WL.e_mulI, WL.e_div, WL.e_mod, WL.e_pow, WL.e_ltI, WL.e_leI, WL.e_gtI, WL.e_geI, WL.e_eqI, WL.e_neI, WL.e_eqS, WL.e_neS, WL.e_eqB, WL.e_neB, WL.e_isN, WL.e_isntN, WL.e_isB, WL.e_isntB, WL.isNon, WL.isB, WL.notScr,
  WL.e_len, WL.e_lenF, WL.e_lenT, WL.e_lenS, WL.e_lenX, WL.e_lenR, WL.e_lenL, WL.e_lenD, WL.e_list, WL.e_tuple, WL.e_tupF, WL.e_tupT, WL.e_tupS, WL.e_tupR, WL.e_max2, WL.e_max1, WL.e_min2, WL.e_int1, WL.e_intB, WL.e_intI, WL.e_seqR, WL.e_seqF, WL.e_seqT, WL.e_seqS, WL.e_seqLR, WL.e_seqLF, WL.e_seqLS, WL.e_seqLT, WL.e_seqMR, WL.e_seqMF, WL.e_isL, WL.e_isLF, WL.e_isD, WL.e_ixF, WL.e_ixT, WL.e_ixS, WL.e_ixR, WL.e_ixX, WL.e_ixL, WL.e_ixD, WL.e_isR, WL.e_isD1, WL.e_isL1, WL.e_tyN, WL.e_tyB, WL.e_tyI, WL.e_tyS, WL.e_tyT, WL.e_tyF, WL.e_slF, WL.e_slR, WL.e_slS, WL.e_slT,
  WL.z_non, WL.z_bl, WL.z_int, WL.z_str, WL.z_tup, WL.z_fls, WL.updW_twice, WL.end_nx, WL.end_rt, WL.end_ex, WL.keyW, WL.kb_NoneType_int, WL.kb_NoneType_bool, WL.kb_NoneType_list, WL.kb_NoneType_tuple, WL.kb_NoneType_str, WL.kb_bool_int, WL.kb_bool_bool, WL.kb_bool_list, WL.kb_bool_tuple, WL.kb_bool_str, WL.kb_int_int, WL.kb_int_bool, WL.kb_int_list, WL.kb_int_tuple, WL.kb_int_str, WL.kb_str_int, WL.kb_str_bool, WL.kb_str_list, WL.kb_str_tuple, WL.kb_str_str, WL.kb_tuple_int, WL.kb_tuple_bool, WL.kb_tuple_list, WL.kb_tuple_tuple, WL.kb_tuple_str, WL.kb_list_int, WL.kb_list_bool, WL.kb_list_list, WL.kb_list_tuple, WL.kb_list_str, WL.kb_dict_int, WL.kb_dict_bool, WL.kb_dict_list, WL.kb_dict_tuple, WL.kb_dict_str,
  List.getElem?_cons_zero, List.getElem?_cons_succ, List.set_cons_zero, List.set_cons_succ, List.cons.injEq, List.length_cons, List.length_nil, Option.some.injEq, exists_eq_left, exists_eq_left', exists_eq, exists_eq', and_assoc, exists_and_left, true_and, and_true, false_and, and_false, exists_false, or_false, false_or, WL.W.int.injEq, WL.W.scr.injEq, Int.reduceLE, Int.reduceLT, Int.reduceNeg, WL.W.bl.injEq, WL.W.str.injEq, WL.W.ref.injEq, WL.W.fls.injEq, WL.W.tup.injEq, WL.HW.lst.injEq, WL.HW.dct.injEq, WL.HW.ins.injEq, reduceCtorEq, ↓reduceIte, Bool.false_eq_true, decide_eq_true_eq, Bool.not_true, Bool.not_false, Bool.not_eq_true', decide_eq_false_iff_not, WL.updW_same])
local macro_rules | `(tactic| walk_at "n") => `(tactic| ((try dsimp only); rw [WL.e_bcons]; walk_at "x"))
/-! ## lists.py, and what the laws draw -/
namespace WL
open PySem L2

def isInt : W → Bool
  | .int _ => true
  | _ => false
def p_is_whole : SpW := fun ws H Q _ => ∃ w t, ws = [w] ∧ tyW H w = some t ∧ Q (.bl (isInt w)) H
theorem r_is_whole {g : Gm} (ws : List W) (H : Hw) (Q : KW) (E : EW) (h : p_is_whole ws H Q E) : denB g c_is_whole (endOf (frz Q) E) (startW ["thing"] ws) H := by
  obtain ⟨w, t, rfl, ht, hq⟩ := h
  show denB g c_is_whole (endOf (frz Q) E) [some w] H
  unfold c_is_whole
  cases w with
  | ref a =>
    walk_at "s"
    rcases ty_ref ht with rfl | rfl
    · refine ⟨_, ht, ?_⟩
      walk_at "s"
      exact hq
    · refine ⟨_, ht, ?_⟩
      walk_at "s"
      exact hq
  | scr _ => cases ht
  | _ => walk_at "s"; exact hq

def okL (m : Int) : Int → List W → Bool
  | _, [] => true
  | a, .int h :: r => (decide (a < h) && decide (h < m)) && okL m h r
  | _, _ :: _ => false
/-- is_list(thing, many) of a list -/
def isList (xs : List W) (m : Int) : Bool := !xs.isEmpty && okL m (-1) xs
def p_is_list : SpW := fun ws H Q _ => ∃ w m t, ws = [w, .int m] ∧ tyW H w = some t ∧
  ((t ≠ "list" ∧ Q (.bl false) H) ∨ ∃ xs, t = "list" ∧ seqA H w xs ∧ Ld H w (.fls xs) ∧ isDs xs = true ∧ deps xs ≤ 63 ∧ xs.length < 1000 ∧ Q (.bl (isList xs m)) H)
theorem ty_isD {w : W} (h : isD w = true) (H : Hw) : ∃ t, tyW H w = some t := by
  cases w with
  | ref _ => cases h
  | scr _ => cases h
  | _ => exact ⟨_, rfl⟩
theorem is_list_loop {g : Gm} (hg : g.fn "is_whole" p_is_whole) {w : W} {m : Int} {H : Hw} {all : List W} {D : EndW} (hs : seqA H w all) :
    ∀ (xs : List W) (a : Int) (cur : Option W), isDs xs = true → (okL m a xs = true → ∀ a' cur', D.nx [some w, some (.int m), some (.int a'), cur'] H) → (okL m a xs = false → D.rt (.bl false) H) →
      loopW (fun H => seqA H w all) 3 (denB g b_is_list_1) D xs [some w, some (.int m), some (.int a), cur] H := by
  intro xs
  induction xs with
  | nil => intro a cur _ h _; exact ⟨hs, h rfl _ _⟩
  | cons x xs ih =>
    intro a cur hd h1 h2
    obtain ⟨d1, d2⟩ := and_ok (show (isD x && isDs xs) = true from hd)
    refine ⟨hs, ?_⟩
    rw [ub_is_list_1]
    walk_at "s"
    obtain ⟨t, ht⟩ := ty_isD d1 H
    refine ⟨_, hg, x, t, rfl, ht, ?_⟩
    cases x with
    | int i =>
      simp only [isInt]
      walk_at "s"
      by_cases q1 : i ≤ a
      · have e : okL m a (.int i :: xs) = false := by simp [okL]; intro h; omega
        simp only [q1, decide_true, if_true]
        exact h2 e
      · simp only [q1, decide_false, if_false, Bool.false_eq_true]
        by_cases q2 : m ≤ i
        · have e : okL m a (.int i :: xs) = false := by simp [okL]; intro h; omega
          simp only [q2, decide_true, if_true]
          exact h2 e
        · simp only [q2, decide_false, if_false, Bool.false_eq_true]
          have e : okL m a (.int i :: xs) = okL m i xs := by
            have e1 : decide (a < i) = true := decide_eq_true (by omega)
            have e2 : decide (i < m) = true := decide_eq_true (by omega)
            show ((decide (a < i) && decide (i < m)) && okL m i xs) = _
            rw [e1, e2]
            rfl
          rw [e] at h1 h2
          exact ih i (some (.int i)) d2 h1 h2
    | ref _ => cases d1
    | scr _ => cases d1
    | _ =>
      simp only [isInt]
      walk_at "s"
      exact h2 rfl
theorem r_is_list {g : Gm} (hg : g.fn "is_whole" p_is_whole) (ws : List W) (H : Hw) (Q : KW) (E : EW) (h : p_is_list ws H Q E) : denB g c_is_list (endOf (frz Q) E) (startW ["thing", "many", "ahead", "hand"] ws) H := by
  obtain ⟨w, m, t, rfl, ht, h⟩ := h
  show denB g c_is_list (endOf (frz Q) E) [some w, some (.int m), none, none] H
  unfold c_is_list
  rcases h with ⟨hn, hq⟩ | ⟨xs, rfl, hs, hl, hd, hp, _, hq⟩
  · cases w with
    | ref a =>
      walk_at "s"
      rcases ty_ref ht with rfl | rfl
      · exact absurd rfl hn
      · refine ⟨_, ht, _, kb_dict_list, ?_⟩
        walk_at "s"
        exact hq
    | scr _ => cases ht
    | fls _ => cases ht; exact absurd rfl hn
    | _ => walk_at "s"; exact hq
  · simp only [e_bcons, e_ifs, e_ors, e_tnot, e_tru, e_isi, e_var, List.getElem?_cons_zero, Option.some.injEq, exists_eq_left']
    refine ⟨_, ht, _, kb_list_list, ?_⟩
    walk_at "s"
    refine ⟨Nat.zero_le _, newF ?_⟩
    refine eqd_of (x' := .fls xs) (y' := .fls []) hl .refl hd rfl (Nat.succ_le_succ hp) (by decide) ?_
    cases xs with
    | nil =>
      simp only [dat, dats, PyData.eqv, PyData.eqvAll]
      walk_at "s"
      exact hq
    | cons x xs =>
      simp only [dat, dats, PyData.eqv, PyData.eqvAll]
      walk_at "s"
      refine ⟨_, hs, ?_⟩
      refine is_list_loop hg hs _ _ _ hd (fun e a' cur' => ?_) (fun e => ?_)
      · walk_at "s"
        have : isList (x :: xs) m = true := e
        rw [this] at hq
        exact hq
      · have : isList (x :: xs) m = false := e
        rw [this] at hq
        walk_at "s"
        exact hq

def p_enough : SpW := fun ws H Q _ => ∃ w xs, ws = [w] ∧ seqA H w xs ∧ Q (.int (xs.length / 2 + 1 : Nat)) H
theorem r_enough {g : Gm} (ws : List W) (H : Hw) (Q : KW) (E : EW) (h : p_enough ws H Q E) : denB g c_enough (endOf (frz Q) E) (startW ["members"] ws) H := by
  obtain ⟨w, xs, rfl, hs, hq⟩ := h
  show denB g c_enough (endOf (frz Q) E) [some w] H
  unfold c_enough
  walk_at "s"
  refine len_of hs ?_
  walk_at "s"
  refine ⟨⟨by decide, by decide⟩, ?_⟩
  have : ((xs.length : Int) / 2 + 1) = ((xs.length / 2 + 1 : Nat) : Int) := by omega
  rw [this]
  exact hq

/-- the first of the longest rows -/
def longestGo {α : Type} : List α → List (List α) → List α
  | f, [] => f
  | f, r :: rs => longestGo (if f.length < r.length then r else f) rs
def longestOf {α : Type} (rows : List (List α)) : List α := longestGo [] rows
/-- of lists that stay -/
def p_longest : SpW := fun ws H Q _ => ∃ (w : W) (rows : List (List W)), ws = [w] ∧ seqA H w (rows.map W.fls) ∧ newL (longestOf rows) H Q
theorem longest_loop {g : Gm} {w : W} {H : Hw} {all : List W} {D : EndW} (hs : seqA H w all) :
    ∀ (rows : List (List W)) (f : List W) (cur : Option W), (∀ cur', D.nx [some w, some (.fls (longestGo f rows)), cur'] H) →
      loopW (fun H => seqA H w all) 2 (denB g b_longest_1) D (rows.map W.fls) [some w, some (.fls f), cur] H := by
  intro rows
  induction rows with
  | nil => intro f cur h; exact ⟨hs, h _⟩
  | cons r rs ih =>
    intro f cur h
    refine ⟨hs, ?_⟩
    rw [ub_longest_1]
    walk_at "s"
    by_cases q : f.length < r.length
    · have q' : (f.length : Int) < r.length := by omega
      simp only [q', if_true]
      refine ih r (some (.fls r)) fun cur' => ?_
      have := h cur'
      simp only [longestGo, q, if_true] at this
      exact this
    · have q' : ¬ (f.length : Int) < r.length := by omega
      simp only [q', if_false]
      refine ih f (some (.fls r)) fun cur' => ?_
      have := h cur'
      simp only [longestGo, q, if_false] at this
      exact this
theorem r_longest {g : Gm} (ws : List W) (H : Hw) (Q : KW) (E : EW) (h : p_longest ws H Q E) : denB g c_longest (endOf (frz Q) E) (startW ["rows", "found", "row"] ws) H := by
  obtain ⟨w, rows, rfl, hs, hq⟩ := h
  show denB g c_longest (endOf (frz Q) E) [some w, none, none] H
  unfold c_longest
  walk_at "s"
  refine ⟨Nat.zero_le _, newF ?_⟩
  refine ⟨_, hs, ?_⟩
  refine longest_loop hs rows [] _ fun cur' => ?_
  walk_at "s"
  rcases hq with hq | hq
  · exact newR fun p hp => .inl (hq p hp)
  · exact newF (by walk_at "s"; exact hq)

/-! ### what is drawn -/
def draw (ns : List Int) (i : Int) : Int := ns.getD i.toNat 0
def p_draw : SpW := fun ws H Q _ => ∃ ns i, ws = [.scr ns, .int i] ∧ 0 ≤ i ∧ Q (.int (draw ns i)) H
theorem r_draw {g : Gm} (ws : List W) (H : Hw) (Q : KW) (E : EW) (h : p_draw ws H Q E) : denB g c_law_draw (endOf (frz Q) E) (startW ["_law_script", "_law_k"] ws) H := by
  obtain ⟨ns, i, rfl, h0, hq⟩ := h
  show denB g c_law_draw (endOf (frz Q) E) [some (.scr ns), some (.int i)] H
  unfold c_law_draw
  walk_at "s"
  by_cases q : i < (ns.length : Int)
  · simp only [q, if_true]
    refine ⟨.int (draw ns i), ?_, ?_⟩
    · have hl : i.toNat < ns.length := by omega
      have : (ns.map W.int)[i.toNat]? = some (W.int (draw ns i)) := by
        simp [draw, hl]
      have e := atI_nat this
      rw [Int.toNat_of_nonneg h0] at e
      exact e
    · walk_at "s"
      exact hq
  · simp only [q, if_false]
    have : draw ns i = 0 := by
      unfold draw
      have hl : ns.length ≤ i.toNat := by omega
      simp [List.getD, hl]
    rw [this] at hq
    exact hq
def p_is_number : SpW := fun ws H Q _ => ∃ w t, ws = [w] ∧ tyW H w = some t ∧ Q (.bl (isInt w)) H
theorem r_is_number {g : Gm} (ws : List W) (H : Hw) (Q : KW) (E : EW) (h : p_is_number ws H Q E) : denB g c_law_is_number (endOf (frz Q) E) (startW ["_law_found"] ws) H := by
  obtain ⟨w, t, rfl, ht, hq⟩ := h
  show denB g c_law_is_number (endOf (frz Q) E) [some w] H
  unfold c_law_is_number
  cases w with
  | ref a =>
    walk_at "s"
    rcases ty_ref ht with rfl | rfl
    · exact ⟨_, ht, _, kb_list_int, by walk_at "s"; exact hq⟩
    · exact ⟨_, ht, _, kb_dict_int, by walk_at "s"; exact hq⟩
  | scr _ => cases ht
  | bl b => cases b <;> (walk_at "s"; exact hq)
  | _ => walk_at "s"; exact hq
/-- the hands that bits tell -/
def handsGo (b : Int) : Nat → Nat → List Int
  | 0, _ => []
  | n + 1, j => (if b % 2 = 1 then [(j : Int)] else []) ++ handsGo (b / 2) n (j + 1)
def handsOf (b : Int) (n : Nat) : List Int := handsGo b n 0
def p_hands : SpW := fun ws H Q _ => ∃ b m, ws = [.int b, .int m] ∧ 0 ≤ m ∧ m ≤ 1000 ∧ newL ((handsOf b m.toNat).map W.int) H Q
theorem hands_loop {g : Gm} {m : Int} {p : Addr} {H : Hw} {D : EndW} :
    ∀ (n j : Nat) (bits : Int) (xs : List Int) (cur : Option W), xs.length + n ≤ 1000 → (∀ b' cur', D.nx [some (.int b'), some (.int m), some (.ref p), cur'] (updW H p (.lst ((xs ++ handsGo bits n j).map W.int)))) →
      loopW (fun _ => True) 3 (denB g b_law_hands_1) D ((List.range' j n).map fun (k : Nat) => W.int (k : Int)) [some (.int bits), some (.int m), some (.ref p), cur] (updW H p (.lst (xs.map W.int))) := by
  intro n
  induction n with
  | zero =>
    intro j bits xs cur _ h
    have := h bits cur
    rw [show handsGo bits 0 j = [] from rfl, List.append_nil] at this
    exact ⟨trivial, this⟩
  | succ n ih =>
    intro j bits xs cur hl h
    rw [List.range'_succ]
    refine ⟨trivial, ?_⟩
    rw [ub_law_hands_1]
    walk_at "s"
    by_cases q : bits % 2 = 1
    · simp only [q, if_true]
      simp only [List.length_map]
      refine ⟨Nat.lt_of_lt_of_le (by omega : xs.length < 1001) (by decide), ⟨by decide, by decide⟩, ?_⟩
      have e : xs.map W.int ++ [W.int (j : Int)] = (xs ++ [(j : Int)]).map W.int := by simp
      rw [e]
      refine ih (j + 1) (bits / 2) (xs ++ [(j : Int)]) _ (by simp; omega) fun b' cur' => ?_
      have := h b' cur'
      simp only [handsGo, q, if_true] at this
      rw [List.append_assoc]
      exact this
    · simp only [q, if_false]
      refine ⟨⟨by decide, by decide⟩, ?_⟩
      refine ih (j + 1) (bits / 2) xs _ (by omega) fun b' cur' => ?_
      have := h b' cur'
      simp only [handsGo, q, if_false, List.nil_append] at this
      exact this
theorem r_hands {g : Gm} (ws : List W) (H : Hw) (Q : KW) (E : EW) (h : p_hands ws H Q E) : denB g c_law_hands (endOf (frz Q) E) (startW ["_law_bits", "_law_many", "_law_found", "_law_hand"] ws) H := by
  obtain ⟨bits, m, rfl, h0, h1, hq⟩ := h
  show denB g c_law_hands (endOf (frz Q) E) [some (.int bits), some (.int m), none, none] H
  unfold c_law_hands
  walk_at "s"
  refine ⟨Nat.zero_le _, newR fun p hp => ?_⟩
  refine ⟨by omega, by omega, ?_⟩
  rw [rngW_nat, List.range_eq_range']
  refine hands_loop (xs := []) (H := H) m.toNat 0 bits _ (by simp; omega) fun b' cur' => ?_
  walk_at "s"
  exact z_new hq hp
end WL

local macro_rules | `(tactic| walk_at "s") => `(tactic| try simp only [WL.e_var, WL.e_lit, WL.e_gint, WL.e_lst, WL.e_tup, WL.e_bin, WL.e_neg, WL.e_cmp, WL.e_chn, WL.e_andV, WL.e_orV, WL.e_notV, WL.e_ife, WL.e_fld, WL.e_ix, WL.e_slc, WL.e_rev, WL.e_bcl, WL.e_isi, WL.e_call, WL.e_mk, WL.e_mth, WL.e_app, WL.e_ext, WL.e_pop, WL.e_get1, WL.e_get2, WL.e_setd, WL.e_lcm, WL.e_dnew, WL.e_dct, WL.e_lrng, WL.e_anil, WL.e_acons, WL.e_pnil, WL.e_pcons, WL.e_ono, WL.e_oso, WL.e_ands, WL.e_ors, WL.e_tnot, WL.e_tru, WL.e_iex, WL.e_ir1, WL.e_ir2, WL.e_ir3, WL.e_uno, WL.e_uso,
  WL.e_set, WL.e_fset, WL.e_iset, WL.e_unp, WL.e_expr, WL.e_ret, WL.e_retN, WL.e_ifs, WL.e_for_, WL.e_whl, WL.e_raise, WL.e_try, WL.e_pass, WL.e_bnil, WL.e_bcons, WL.e_loop0, WL.e_loop1, WL.e_comp0, WL.e_comp1,
  WL.e_addI, WL.e_addS, WL.e_addF, WL.e_sub, WL.e_mulI, WL.e_div, WL.e_mod, WL.e_pow, WL.e_ltI, WL.e_leI, WL.e_gtI, WL.e_geI, WL.e_eqI, WL.e_neI, WL.e_eqS, WL.e_neS, WL.e_eqB, WL.e_neB, WL.e_isN, WL.e_isntN, WL.e_isB, WL.e_isntB, WL.isNon, WL.isB, WL.notScr,
  WL.e_len, WL.e_lenF, WL.e_lenT, WL.e_lenS, WL.e_lenX, WL.e_lenR, WL.e_lenL, WL.e_lenD, WL.e_list, WL.e_tuple, WL.e_tupF, WL.e_tupT, WL.e_tupS, WL.e_tupR, WL.e_max2, WL.e_max1, WL.e_min2, WL.e_int1, WL.e_intB, WL.e_intI, WL.e_seqR, WL.e_seqF, WL.e_seqT, WL.e_seqS, WL.e_seqLR, WL.e_seqLF, WL.e_seqLS, WL.e_seqLT, WL.e_seqMR, WL.e_seqMF, WL.e_isL, WL.e_isLF, WL.e_isD, WL.e_ixF, WL.e_ixT, WL.e_ixS, WL.e_ixR, WL.e_ixX, WL.e_ixL, WL.e_ixD, WL.e_isR, WL.e_isD1, WL.e_isL1, WL.e_tyN, WL.e_tyB, WL.e_tyI, WL.e_tyS, WL.e_tyT, WL.e_tyF, WL.e_slF, WL.e_slR, WL.e_slS, WL.e_slT,
  WL.z_non, WL.z_bl, WL.z_int, WL.z_str, WL.z_tup, WL.z_fls, WL.updW_twice, WL.end_nx, WL.end_rt, WL.end_ex, WL.keyW, WL.kb_NoneType_int, WL.kb_NoneType_bool, WL.kb_NoneType_list, WL.kb_NoneType_tuple, WL.kb_NoneType_str, WL.kb_bool_int, WL.kb_bool_bool, WL.kb_bool_list, WL.kb_bool_tuple, WL.kb_bool_str, WL.kb_int_int, WL.kb_int_bool, WL.kb_int_list, WL.kb_int_tuple, WL.kb_int_str, WL.kb_str_int, WL.kb_str_bool, WL.kb_str_list, WL.kb_str_tuple, WL.kb_str_str, WL.kb_tuple_int, WL.kb_tuple_bool, WL.kb_tuple_list, WL.kb_tuple_tuple, WL.kb_tuple_str, WL.kb_list_int, WL.kb_list_bool, WL.kb_list_list, WL.kb_list_tuple, WL.kb_list_str, WL.kb_dict_int, WL.kb_dict_bool, WL.kb_dict_list, WL.kb_dict_tuple, WL.kb_dict_str,
  List.getElem?_cons_zero, List.getElem?_cons_succ, List.set_cons_zero, List.set_cons_succ, List.cons.injEq, List.length_cons, List.length_nil, Option.some.injEq, exists_eq_left, exists_eq_left', exists_eq, exists_eq', and_assoc, exists_and_left, true_and, and_true, false_and, and_false, exists_false, or_false, false_or, WL.W.int.injEq, WL.W.scr.injEq, Int.reduceLE, Int.reduceLT, Int.reduceNeg, WL.W.bl.injEq, WL.W.str.injEq, WL.W.ref.injEq, WL.W.fls.injEq, WL.W.tup.injEq, WL.HW.lst.injEq, WL.HW.dct.injEq, WL.HW.ins.injEq, reduceCtorEq, ↓reduceIte, Bool.false_eq_true, decide_eq_true_eq, Bool.not_true, Bool.not_false, Bool.not_eq_true', decide_eq_false_iff_not, WL.updW_same, WL.p_draw, WL.p_is_whole, WL.p_is_list, WL.p_enough, WL.p_longest, WL.p_is_number, WL.p_hands])
local macro_rules | `(tactic| walk_at "x") => `(tactic| try simp only [WL.e_var, WL.e_lit, WL.e_gint, WL.e_lst, WL.e_tup, WL.e_bin, WL.e_neg, WL.e_cmp, WL.e_chn, WL.e_andV, WL.e_orV, WL.e_notV, WL.e_ife, WL.e_fld, WL.e_ix, WL.e_slc, WL.e_rev, WL.e_bcl, WL.e_isi, WL.e_call, WL.e_mk, WL.e_mth, WL.e_app, WL.e_ext, WL.e_pop, WL.e_get1, WL.e_get2, WL.e_setd, WL.e_lcm, WL.e_dnew, WL.e_dct, WL.e_lrng, WL.e_anil, WL.e_acons, WL.e_pnil, WL.e_pcons, WL.e_ono, WL.e_oso, WL.e_ands, WL.e_ors, WL.e_tnot, WL.e_tru, WL.e_iex, WL.e_ir1, WL.e_ir2, WL.e_ir3, WL.e_uno, WL.e_uso,
  WL.e_set, WL.e_fset, WL.e_iset, WL.e_unp, WL.e_expr, WL.e_ret, WL.e_retN, WL.e_ifs, WL.e_for_, WL.e_whl, WL.e_raise, WL.e_try, WL.e_pass, WL.e_bnil, WL.e_loop0, WL.e_loop1, WL.e_comp0, WL.e_comp1,
  WL.e_addI, WL.e_addS, WL.e_addF, WL.e_sub, WL.e_mulI, WL.e_div, WL.e_mod, WL.e_pow, WL.e_ltI, WL.e_leI, WL.e_gtI, WL.e_geI, WL.e_eqI, WL.e_neI, WL.e_eqS, WL.e_neS, WL.e_eqB, WL.e_neB, WL.e_isN, WL.e_isntN, WL.e_isB, WL.e_isntB, WL.isNon, WL.isB, WL.notScr,
  WL.e_len, WL.e_lenF, WL.e_lenT, WL.e_lenS, WL.e_lenX, WL.e_lenR, WL.e_lenL, WL.e_lenD, WL.e_list, WL.e_tuple, WL.e_tupF, WL.e_tupT, WL.e_tupS, WL.e_tupR, WL.e_max2, WL.e_max1, WL.e_min2, WL.e_int1, WL.e_intB, WL.e_intI, WL.e_seqR, WL.e_seqF, WL.e_seqT, WL.e_seqS, WL.e_seqLR, WL.e_seqLF, WL.e_seqLS, WL.e_seqLT, WL.e_seqMR, WL.e_seqMF, WL.e_isL, WL.e_isLF, WL.e_isD, WL.e_ixF, WL.e_ixT, WL.e_ixS, WL.e_ixR, WL.e_ixX, WL.e_ixL, WL.e_ixD, WL.e_isR, WL.e_isD1, WL.e_isL1, WL.e_tyN, WL.e_tyB, WL.e_tyI, WL.e_tyS, WL.e_tyT, WL.e_tyF, WL.e_slF, WL.e_slR, WL.e_slS, WL.e_slT,
  WL.z_non, WL.z_bl, WL.z_int, WL.z_str, WL.z_tup, WL.z_fls, WL.updW_twice, WL.end_nx, WL.end_rt, WL.end_ex, WL.keyW, WL.kb_NoneType_int, WL.kb_NoneType_bool, WL.kb_NoneType_list, WL.kb_NoneType_tuple, WL.kb_NoneType_str, WL.kb_bool_int, WL.kb_bool_bool, WL.kb_bool_list, WL.kb_bool_tuple, WL.kb_bool_str, WL.kb_int_int, WL.kb_int_bool, WL.kb_int_list, WL.kb_int_tuple, WL.kb_int_str, WL.kb_str_int, WL.kb_str_bool, WL.kb_str_list, WL.kb_str_tuple, WL.kb_str_str, WL.kb_tuple_int, WL.kb_tuple_bool, WL.kb_tuple_list, WL.kb_tuple_tuple, WL.kb_tuple_str, WL.kb_list_int, WL.kb_list_bool, WL.kb_list_list, WL.kb_list_tuple, WL.kb_list_str, WL.kb_dict_int, WL.kb_dict_bool, WL.kb_dict_list, WL.kb_dict_tuple, WL.kb_dict_str,
  List.getElem?_cons_zero, List.getElem?_cons_succ, List.set_cons_zero, List.set_cons_succ, List.cons.injEq, List.length_cons, List.length_nil, Option.some.injEq, exists_eq_left, exists_eq_left', exists_eq, exists_eq', and_assoc, exists_and_left, true_and, and_true, false_and, and_false, exists_false, or_false, false_or, WL.W.int.injEq, WL.W.scr.injEq, Int.reduceLE, Int.reduceLT, Int.reduceNeg, WL.W.bl.injEq, WL.W.str.injEq, WL.W.ref.injEq, WL.W.fls.injEq, WL.W.tup.injEq, WL.HW.lst.injEq, WL.HW.dct.injEq, WL.HW.ins.injEq, reduceCtorEq, ↓reduceIte, Bool.false_eq_true, decide_eq_true_eq, Bool.not_true, Bool.not_false, Bool.not_eq_true', decide_eq_false_iff_not, WL.updW_same, WL.p_draw, WL.p_is_whole, WL.p_is_list, WL.p_enough, WL.p_longest, WL.p_is_number, WL.p_hands])
local macro_rules | `(tactic| walk_at "n") => `(tactic| ((try dsimp only); rw [WL.e_bcons]; walk_at "x"))
-- mac: p_draw p_is_whole p_is_list p_enough p_longest p_is_number p_hands
/-! ## law k01: its defs -/
namespace WL
open PySem L2
theorem cutW_none_some {xs : List W} {n : Nat} (h : n ≤ xs.length) : cutW xs none (some (n : Int)) = xs.take n := by
  unfold cutW
  rw [HT.sIx_none, HT.sIx_nat]
  simp [Nat.min_eq_left h]
theorem cutW_some_none {xs : List W} {n : Nat} (h : n ≤ xs.length) : cutW xs (some (n : Int)) none = xs.drop n := by
  unfold cutW
  rw [HT.sIx_none, HT.sIx_nat, Nat.min_eq_left h, List.take_of_length_le (by simp)]
theorem isDs_append : ∀ {xs ys : List W}, isDs xs = true → isDs ys = true → isDs (xs ++ ys) = true := fun {xs ys} h k => by
  rw [isDs_mem] at *
  intro x hx
  rcases List.mem_append.mp hx with q | q
  · exact h x q
  · exact k x q
theorem isDs_ints (l : List Int) : isDs (l.map W.int) = true := isDs_nb _ (nbs_ints l)
theorem isDs_sub {xs ys : List W} (h : isDs xs = true) (s : ∀ x ∈ ys, x ∈ xs) : isDs ys = true := by
  rw [isDs_mem] at *
  exact fun x hx => h x (s x hx)
def wlen : W → Nat
  | .fls xs => xs.length
  | _ => 0
def p_thing_k01 : SpW := fun ws H Q _ => ∃ ns l, ws = [.scr ns, .fls (l.map W.int)] ∧ l ≠ [] ∧ l.length ≤ 9 ∧ ∀ w, isD w = true → dep w ≤ 3 → wlen w < 1000 → Q w H
theorem dep_ints {l : List Int} : deps (l.map W.int) ≤ 0 := by rw [deps_ints]; exact Nat.le_refl _
theorem dep_le_of {xs : List W} {n : Nat} (h : ∀ x ∈ xs, dep x ≤ n) : deps xs ≤ n := deps_le.mpr h
theorem r_thing_k01 {g : Gm} (hd : g.fn "_law_draw" p_draw) (ws : List W) (H : Hw) (Q : KW) (E : EW) (h : p_thing_k01 ws H Q E) : denB g c_law_thing (endOf (frz Q) E) (startW ["_law_script", "_law_hands_here", "_law_way", "_law_at", "_law_odd"] ws) H := by
  obtain ⟨ns, l, rfl, hl, hl9, hq⟩ := h
  show denB g c_law_thing (endOf (frz Q) E) [some (.scr ns), some (.fls (l.map W.int)), none, none, none] H
  have hpos : 0 < l.length := List.length_pos_iff.mpr hl
  have in0 : ∀ x ∈ l.map W.int, isD x = true ∧ dep x = 0 := fun x hx => by
    obtain ⟨i, _, rfl⟩ := List.mem_map.mp hx
    exact ⟨rfl, rfl⟩
  unfold c_law_thing
  walk_at "s"
  refine ⟨_, hd, ?_⟩
  walk_at "s"
  refine ⟨_, hd, ?_⟩
  walk_at "s"
  simp only [List.length_map]
  refine ⟨by omega, ?_⟩
  generalize ea : draw ns 2 % (l.length : Int) = at'
  have a0 : 0 ≤ at' := by rw [← ea]; exact Int.emod_nonneg _ (by omega)
  have a1 : at' < l.length := by rw [← ea]; exact Int.emod_lt_of_pos _ (by omega)
  obtain ⟨n, rfl⟩ := Int.eq_ofNat_of_zero_le a0
  have hn : n < l.length := by omega
  have fin : ∀ pre mid post, (∀ x ∈ pre, x ∈ l.map W.int) → (∀ x ∈ post, x ∈ l.map W.int) → isD mid = true → dep mid ≤ 2 → (pre ++ [mid] ++ post).length < 1000 → Q (.fls (pre ++ [mid] ++ post)) H := fun pre mid post h1 h2 h3 h4 h5 => by
    refine hq _ ?_ ?_ h5
    · show isDs _ = true
      rw [isDs_mem]
      intro x hx
      simp only [List.mem_append, List.mem_singleton] at hx
      rcases hx with (hx | rfl) | hx
      · exact (in0 x (h1 x hx)).1
      · exact h3
      · exact (in0 x (h2 x hx)).1
    · show deps _ + 1 ≤ 3
      have : deps (pre ++ [mid] ++ post) ≤ 2 := deps_le.mpr fun x hx => by
        simp only [List.mem_append, List.mem_singleton] at hx
        rcases hx with (hx | rfl) | hx
        · have := (in0 x (h1 x hx)).2; omega
        · exact h4
        · have := (in0 x (h2 x hx)).2; omega
      omega
  have whole : Q (.fls (l.map W.int)) H := hq _ (isDs_ints l) (by show deps _ + 1 ≤ 3; have := @dep_ints l; omega) (by simp [wlen]; omega)
  have lenle : ∀ m : Nat, m ≤ 20 → m ≤ sizeLine := fun m hm => Nat.le_trans hm (by decide)
  split
  · refine newF ?_
    rw [cutW_none_some (by simpa using Nat.le_of_lt hn)]
    have hlast : (l.map W.int).getLast? = some (W.int (l.getLast hl)) := by rw [List.getLast?_map, List.getLast?_eq_some_getLast hl]; rfl
    refine ⟨_, atI_neg1 hlast, lenle _ (by omega), newF ?_⟩
    walk_at "s"
    refine ⟨lenle _ (by simp; omega), newF ?_⟩
    refine newF ?_
    rw [cutW_some_none (by simpa using Nat.le_of_lt hn)]
    walk_at "s"
    refine ⟨lenle _ (by simp; omega), newF ?_⟩
    walk_at "s"
    exact fin _ _ _ (fun x hx => List.mem_of_mem_take hx) (fun x hx => List.mem_of_mem_drop hx) rfl (Nat.zero_le _) (by simp; omega)
  split
  · refine ⟨⟨by decide, by decide, by decide⟩, lenle _ (by omega), lenle _ (by omega), newF ?_⟩
    refine ⟨_, hd, ?_⟩
    walk_at "s"
    obtain ⟨v, hv, e⟩ := atI_mod (xs := [W.int (-1), W.int 9, W.int (10 ^ Int.toNat 20), W.bl true, W.str (Str.ofString "1"), W.non, W.tup [W.int 1, W.int 2], W.bl false]) (m := 8) rfl (by decide) (draw ns 3)
    refine ⟨v, e, newF ?_⟩
    have hv2 : isD v = true ∧ dep v ≤ 2 := by
      simp only [List.mem_cons, List.not_mem_nil, or_false] at hv
      rcases hv with rfl | rfl | rfl | rfl | rfl | rfl | rfl | rfl <;> first | exact ⟨rfl, by decide⟩ | exact ⟨by decide +kernel, by decide⟩
    rw [cutW_none_some (by simpa using Nat.le_of_lt hn)]
    refine ⟨lenle _ (by omega), newF ?_⟩
    walk_at "s"
    refine ⟨lenle _ (by simp; omega), newF (newF ?_)⟩
    have : ((n : Int) + 1) = ((n + 1 : Nat) : Int) := by omega
    rw [this, cutW_some_none (by simp; omega)]
    walk_at "s"
    refine ⟨lenle _ (by simp; omega), newF ?_⟩
    walk_at "s"
    exact fin _ _ _ (fun x hx => List.mem_of_mem_take hx) (fun x hx => List.mem_of_mem_drop hx) hv2.1 hv2.2 (by simp; omega)
  split
  · refine ⟨Nat.zero_le _, newF ⟨lenle _ (by omega), newF ⟨_, hd, ?_⟩⟩⟩
    walk_at "s"
    obtain ⟨v, hv, e⟩ := atI_mod (xs := [W.tup (List.map W.int l), .fls [], W.non, W.int 3, W.str (Str.ofString "012"), W.bl true]) (m := 6) rfl (by simp) (draw ns 3)
    refine ⟨v, e, ?_⟩
    have hv2 : isD v = true ∧ dep v ≤ 2 ∧ frz Q v H = Q v H ∧ wlen v < 1000 := by
      simp only [List.mem_cons, List.not_mem_nil, or_false] at hv
      rcases hv with rfl | rfl | rfl | rfl | rfl | rfl
      · exact ⟨isDs_ints l, by show deps _ + 1 ≤ 2; have := @dep_ints l; omega, z_tup, by simp [wlen]⟩
      · exact ⟨rfl, by decide, z_fls, by decide⟩
      · exact ⟨rfl, by decide, z_non, by decide⟩
      · exact ⟨rfl, by decide, z_int, by decide⟩
      · exact ⟨by decide +kernel, by decide, z_str, by decide⟩
      · exact ⟨rfl, by decide, z_bl, by decide⟩
    rw [hv2.2.2.1]
    exact hq v hv2.1 (by omega) hv2.2.2.2
  split
  · refine newF ?_
    walk_at "s"
    refine hq _ (isDs_sub (isDs_ints l) fun x hx => List.mem_reverse.mp hx) ?_ (by simp [wlen]; omega)
    have : deps (l.map W.int).reverse ≤ 0 := deps_le.mpr fun x hx => by have := (in0 x (List.mem_reverse.mp hx)).2; omega
    show deps _ + 1 ≤ 3
    omega
  · exact whole

theorem due_loop {g : Gm} (hg : g.fn "_law_is_number" p_is_number) {w : W} {m : Int} {H : Hw} {all : List W} {D : EndW} (hs : seqA H w all) (hd : isDs all = true) :
    ∀ (rest pre : List W) (a : Int) (cur : Option W), all = pre ++ rest → ((pre = [] ∧ a = -1) ∨ (0 ≤ a ∧ pre.getLast? = some (.int a))) → (okL m a rest = true → ∀ cur', D.nx [some w, some (.int m), cur'] H) → (okL m a rest = false → D.rt (.bl false) H) →
      loopW (fun _ => True) 2 (denB g b_law_due_k01_1) D ((List.range' pre.length rest.length).map fun (k : Nat) => W.int (k : Int)) [some w, some (.int m), cur] H := by
  intro rest
  induction rest with
  | nil => intro pre a cur e hp h1 h2; exact ⟨trivial, h1 rfl _⟩
  | cons x xs ih =>
    intro pre a cur e hp h1 h2
    have hx : all[pre.length]? = some x := by rw [e]; simp
    have dx : isD x = true := isDs_mem.mp hd x (by rw [e]; simp)
    have ex := atI_nat hx
    show loopW _ 2 _ D ((List.range' pre.length (xs.length + 1)).map _) _ H
    rw [List.range'_succ]
    refine ⟨trivial, ?_⟩
    rw [ub_law_due_k01_1]
    walk_at "s"
    refine ⟨_, hg, ixd_of hs ex ?_⟩
    walk_at "s"
    obtain ⟨t, ht⟩ := ty_isD dx H
    refine ⟨t, ht, ?_⟩
    have bad : okL m a (x :: xs) = false → D.rt (W.bl false) H := h2
    cases x with
    | int i =>
      simp only [isInt]
      walk_at "s"
      refine ixd_of hs ex ?_
      walk_at "s"
      by_cases q0 : i < 0
      · simp only [q0, if_true]
        refine h2 ?_
        have : ¬ a < i := by rcases hp with ⟨_, rfl⟩ | ⟨h, _⟩ <;> omega
        simp [okL, this]
      simp only [q0, if_false]
      refine ixd_of hs ex ?_
      walk_at "s"
      by_cases q1 : m ≤ i
      · simp only [q1, if_true]
        refine h2 ?_
        have : ¬ i < m := by omega
        simp [okL, this]
      simp only [q1, if_false]
      have go : a < i → loopW (fun x => True) 2 (denB g b_law_due_k01_1) D (List.map (fun (k : Nat) => W.int (k : Int)) (List.range' (pre.length + 1) xs.length)) [some w, some (W.int m), some (W.int pre.length)] H := fun hlt => by
        have e1 : okL m a (.int i :: xs) = okL m i xs := by
          have e2 : i < m := by omega
          simp [okL, hlt, e2]
        rw [e1] at h1 h2
        have := ih (pre ++ [.int i]) i (some (W.int pre.length)) (by rw [e]; simp) (.inr ⟨by omega, by simp⟩) h1 h2
        rw [List.length_append] at this
        exact this
      rcases hp with ⟨rfl, rfl⟩ | ⟨ha, hp⟩
      · simp only [List.length_nil, Int.natCast_zero, Int.lt_irrefl, if_false]
        exact go (by omega)
      · have hpl : 0 < pre.length := by
          cases pre with
          | nil => cases hp
          | cons _ _ => simp
        have hpl' : (0 : Int) < pre.length := by omega
        simp only [hpl', if_true]
        refine ixd_of hs ex ?_
        have hy : all[pre.length - 1]? = some (.int a) := by
          rw [e, List.getElem?_append_left (by omega), ← List.getLast?_eq_getElem?]
          exact hp
        have ey := atI_nat hy
        have en : ((pre.length - 1 : Nat) : Int) = (pre.length : Int) - 1 := by omega
        rw [en] at ey
        refine ixd_of hs ey ?_
        walk_at "s"
        by_cases q2 : i ≤ a
        · simp only [q2, if_true]
          refine h2 ?_
          have : ¬ a < i := by omega
          simp [okL, this]
        · simp only [q2, if_false]
          exact go (by omega)
    | ref _ => cases dx
    | scr _ => cases dx
    | _ =>
      simp only [isInt]
      walk_at "s"
      exact h2 rfl
theorem r_due_k01 {g : Gm} (hg : g.fn "_law_is_number" p_is_number) (ws : List W) (H : Hw) (Q : KW) (E : EW) (h : p_is_list ws H Q E) : denB g c_law_due_k01 (endOf (frz Q) E) (startW ["_law_thing_here", "_law_many", "_law_k"] ws) H := by
  obtain ⟨w, m, t, rfl, ht, h⟩ := h
  show denB g c_law_due_k01 (endOf (frz Q) E) [some w, some (.int m), none] H
  unfold c_law_due_k01
  rcases h with ⟨hn, hq⟩ | ⟨xs, rfl, hs, hl, hd, hp, hlen, hq⟩
  · cases w with
    | ref a =>
      walk_at "s"
      rcases ty_ref ht with rfl | rfl
      · exact absurd rfl hn
      · refine ⟨_, ht, _, kb_dict_list, ?_⟩
        walk_at "s"
        exact hq
    | scr _ => cases ht
    | fls _ => cases ht; exact absurd rfl hn
    | _ => walk_at "s"; exact hq
  · simp only [e_bcons, e_ifs, e_ors, e_tnot, e_tru, e_isi, e_var, List.getElem?_cons_zero, Option.some.injEq, exists_eq_left']
    refine ⟨_, ht, _, kb_list_list, ?_⟩
    walk_at "s"
    refine ⟨Nat.zero_le _, newF ?_⟩
    refine eqd_of (x' := .fls xs) (y' := .fls []) hl .refl hd rfl (Nat.succ_le_succ hp) (by decide) ?_
    cases xs with
    | nil =>
      simp only [dat, dats, PyData.eqv, PyData.eqvAll]
      walk_at "s"
      exact hq
    | cons x xs =>
      simp only [dat, dats, PyData.eqv, PyData.eqvAll]
      walk_at "s"
      refine len_of hs ?_
      walk_at "s"
      have hlen' : xs.length + 1 < 1000 := hlen
      refine ⟨by omega, by omega, ?_⟩
      rw [rngW_nat, List.range_eq_range']
      refine due_loop hg hs hd (x :: xs) [] _ _ rfl (.inl ⟨rfl, rfl⟩) (fun e cur' => ?_) (fun e => ?_)
      · walk_at "s"
        have : isList (x :: xs) m = true := e
        rw [this] at hq
        exact hq
      · have : isList (x :: xs) m = false := e
        rw [this] at hq
        walk_at "s"
        exact hq

theorem handsGo_mem : ∀ (n j : Nat) (b i : Int), i ∈ handsGo b n j → (j : Int) ≤ i ∧ i < (j + n : Nat)
  | 0, _, _, _, h => by cases h
  | n + 1, j, b, i, h => by
    rw [handsGo, List.mem_append] at h
    rcases h with h | h
    · split at h
      · rw [List.mem_singleton] at h
        omega
      · cases h
    · have := handsGo_mem n (j + 1) _ _ h
      omega
theorem handsGo_len : ∀ (n j : Nat) (b : Int), (handsGo b n j).length ≤ n
  | 0, _, _ => Nat.le_refl _
  | n + 1, j, b => by
    have := handsGo_len n (j + 1) (b / 2)
    rw [handsGo, List.length_append]
    split <;> simp <;> omega
theorem handsGo_ne : ∀ (n j : Nat) (b : Int), 0 < b → b < 2 ^ n → handsGo b n j ≠ []
  | 0, _, b, h1, h2 => by omega
  | n + 1, j, b, h1, h2 => by
    rw [handsGo]
    by_cases q : b % 2 = 1
    · rw [if_pos q]; simp
    · have e : (2 : Int) ^ (n + 1) = 2 * 2 ^ n := by rw [Int.pow_succ]; omega
      rw [if_neg q, List.nil_append]
      exact handsGo_ne n (j + 1) (b / 2) (by omega) (by omega)
/-! ### the law -/
def rowsW (rows : List (List Int)) : List W := rows.map fun r => W.fls (r.map W.int)
theorem rowsW_fls (rows : List (List Int)) : rowsW rows = (rows.map fun r => r.map W.int).map W.fls := by simp [rowsW]
theorem nbs_rows (rows : List (List Int)) : nbs (rowsW rows) = true := nbs_mem.mpr fun x hx => by
  obtain ⟨r, _, rfl⟩ := List.mem_map.mp hx
  exact nbs_ints r
theorem dep_rows (rows : List (List Int)) : deps (rowsW rows) ≤ 1 := deps_le.mpr fun x hx => by
  obtain ⟨r, _, rfl⟩ := List.mem_map.mp hx
  show deps _ + 1 ≤ 1
  rw [deps_ints]
  exact Nat.le_refl _
theorem longest_len : ∀ (rows : List (List W)) (f : List W) (n : Nat), f.length ≤ n → (∀ r ∈ rows, r.length ≤ n) → (longestGo f rows).length ≤ n
  | [], f, n, h1, _ => h1
  | r :: rs, f, n, h1, h3 => by
    rw [longestGo]
    have h5 := fun x hx => h3 x (List.mem_cons_of_mem r hx)
    split
    · exact longest_len rs r n (h3 r (List.mem_cons_self ..)) h5
    · exact longest_len rs f n h1 h5
theorem longest_nb : ∀ (rows : List (List W)) (f : List W), nbs f = true → deps f ≤ 1 → (∀ r ∈ rows, nbs r = true ∧ deps r ≤ 1) → nbs (longestGo f rows) = true ∧ deps (longestGo f rows) ≤ 1
  | [], f, h1, h2, _ => ⟨h1, h2⟩
  | r :: rs, f, h1, h2, h3 => by
    rw [longestGo]
    have h4 := h3 r (List.mem_cons_self ..)
    have h5 := fun x hx => h3 x (List.mem_cons_of_mem r hx)
    split
    · exact longest_nb rs r h4.1 h4.2 h5
    · exact longest_nb rs f h1 h2 h5
end WL

local macro_rules | `(tactic| walk_at "s") => `(tactic| try simp only [WL.e_var, WL.e_lit, WL.e_gint, WL.e_lst, WL.e_tup, WL.e_bin, WL.e_neg, WL.e_cmp, WL.e_chn, WL.e_andV, WL.e_orV, WL.e_notV, WL.e_ife, WL.e_fld, WL.e_ix, WL.e_slc, WL.e_rev, WL.e_bcl, WL.e_isi, WL.e_call, WL.e_mk, WL.e_mth, WL.e_app, WL.e_ext, WL.e_pop, WL.e_get1, WL.e_get2, WL.e_setd, WL.e_lcm, WL.e_dnew, WL.e_dct, WL.e_lrng, WL.e_anil, WL.e_acons, WL.e_pnil, WL.e_pcons, WL.e_ono, WL.e_oso, WL.e_ands, WL.e_ors, WL.e_tnot, WL.e_tru, WL.e_iex, WL.e_ir1, WL.e_ir2, WL.e_ir3, WL.e_uno, WL.e_uso,
  WL.e_set, WL.e_fset, WL.e_iset, WL.e_unp, WL.e_expr, WL.e_ret, WL.e_retN, WL.e_ifs, WL.e_for_, WL.e_whl, WL.e_raise, WL.e_try, WL.e_pass, WL.e_bnil, WL.e_bcons, WL.e_loop0, WL.e_loop1, WL.e_comp0, WL.e_comp1,
  WL.e_addI, WL.e_addS, WL.e_addF, WL.e_sub, WL.e_mulI, WL.e_div, WL.e_mod, WL.e_pow, WL.e_ltI, WL.e_leI, WL.e_gtI, WL.e_geI, WL.e_eqI, WL.e_neI, WL.e_eqS, WL.e_neS, WL.e_eqB, WL.e_neB, WL.e_isN, WL.e_isntN, WL.e_isB, WL.e_isntB, WL.isNon, WL.isB, WL.notScr,
  WL.e_len, WL.e_lenF, WL.e_lenT, WL.e_lenS, WL.e_lenX, WL.e_lenR, WL.e_lenL, WL.e_lenD, WL.e_list, WL.e_tuple, WL.e_tupF, WL.e_tupT, WL.e_tupS, WL.e_tupR, WL.e_max2, WL.e_max1, WL.e_min2, WL.e_int1, WL.e_intB, WL.e_intI, WL.e_seqR, WL.e_seqF, WL.e_seqT, WL.e_seqS, WL.e_seqLR, WL.e_seqLF, WL.e_seqLS, WL.e_seqLT, WL.e_seqMR, WL.e_seqMF, WL.e_isL, WL.e_isLF, WL.e_isD, WL.e_ixF, WL.e_ixT, WL.e_ixS, WL.e_ixR, WL.e_ixX, WL.e_ixL, WL.e_ixD, WL.e_isR, WL.e_isD1, WL.e_isL1, WL.e_tyN, WL.e_tyB, WL.e_tyI, WL.e_tyS, WL.e_tyT, WL.e_tyF, WL.e_slF, WL.e_slR, WL.e_slS, WL.e_slT,
  WL.z_non, WL.z_bl, WL.z_int, WL.z_str, WL.z_tup, WL.z_fls, WL.updW_twice, WL.end_nx, WL.end_rt, WL.end_ex, WL.keyW, WL.kb_NoneType_int, WL.kb_NoneType_bool, WL.kb_NoneType_list, WL.kb_NoneType_tuple, WL.kb_NoneType_str, WL.kb_bool_int, WL.kb_bool_bool, WL.kb_bool_list, WL.kb_bool_tuple, WL.kb_bool_str, WL.kb_int_int, WL.kb_int_bool, WL.kb_int_list, WL.kb_int_tuple, WL.kb_int_str, WL.kb_str_int, WL.kb_str_bool, WL.kb_str_list, WL.kb_str_tuple, WL.kb_str_str, WL.kb_tuple_int, WL.kb_tuple_bool, WL.kb_tuple_list, WL.kb_tuple_tuple, WL.kb_tuple_str, WL.kb_list_int, WL.kb_list_bool, WL.kb_list_list, WL.kb_list_tuple, WL.kb_list_str, WL.kb_dict_int, WL.kb_dict_bool, WL.kb_dict_list, WL.kb_dict_tuple, WL.kb_dict_str,
  List.getElem?_cons_zero, List.getElem?_cons_succ, List.set_cons_zero, List.set_cons_succ, List.cons.injEq, List.length_cons, List.length_nil, Option.some.injEq, exists_eq_left, exists_eq_left', exists_eq, exists_eq', and_assoc, exists_and_left, true_and, and_true, false_and, and_false, exists_false, or_false, false_or, WL.W.int.injEq, WL.W.scr.injEq, Int.reduceLE, Int.reduceLT, Int.reduceNeg, WL.W.bl.injEq, WL.W.str.injEq, WL.W.ref.injEq, WL.W.fls.injEq, WL.W.tup.injEq, WL.HW.lst.injEq, WL.HW.dct.injEq, WL.HW.ins.injEq, reduceCtorEq, ↓reduceIte, Bool.false_eq_true, decide_eq_true_eq, Bool.not_true, Bool.not_false, Bool.not_eq_true', decide_eq_false_iff_not, WL.updW_same, WL.p_draw, WL.p_is_whole, WL.p_enough, WL.p_longest, WL.p_is_number, WL.p_hands, WL.p_thing_k01])
local macro_rules | `(tactic| walk_at "x") => `(tactic| try simp only [WL.e_var, WL.e_lit, WL.e_gint, WL.e_lst, WL.e_tup, WL.e_bin, WL.e_neg, WL.e_cmp, WL.e_chn, WL.e_andV, WL.e_orV, WL.e_notV, WL.e_ife, WL.e_fld, WL.e_ix, WL.e_slc, WL.e_rev, WL.e_bcl, WL.e_isi, WL.e_call, WL.e_mk, WL.e_mth, WL.e_app, WL.e_ext, WL.e_pop, WL.e_get1, WL.e_get2, WL.e_setd, WL.e_lcm, WL.e_dnew, WL.e_dct, WL.e_lrng, WL.e_anil, WL.e_acons, WL.e_pnil, WL.e_pcons, WL.e_ono, WL.e_oso, WL.e_ands, WL.e_ors, WL.e_tnot, WL.e_tru, WL.e_iex, WL.e_ir1, WL.e_ir2, WL.e_ir3, WL.e_uno, WL.e_uso,
  WL.e_set, WL.e_fset, WL.e_iset, WL.e_unp, WL.e_expr, WL.e_ret, WL.e_retN, WL.e_ifs, WL.e_for_, WL.e_whl, WL.e_raise, WL.e_try, WL.e_pass, WL.e_bnil, WL.e_loop0, WL.e_loop1, WL.e_comp0, WL.e_comp1,
  WL.e_addI, WL.e_addS, WL.e_addF, WL.e_sub, WL.e_mulI, WL.e_div, WL.e_mod, WL.e_pow, WL.e_ltI, WL.e_leI, WL.e_gtI, WL.e_geI, WL.e_eqI, WL.e_neI, WL.e_eqS, WL.e_neS, WL.e_eqB, WL.e_neB, WL.e_isN, WL.e_isntN, WL.e_isB, WL.e_isntB, WL.isNon, WL.isB, WL.notScr,
  WL.e_len, WL.e_lenF, WL.e_lenT, WL.e_lenS, WL.e_lenX, WL.e_lenR, WL.e_lenL, WL.e_lenD, WL.e_list, WL.e_tuple, WL.e_tupF, WL.e_tupT, WL.e_tupS, WL.e_tupR, WL.e_max2, WL.e_max1, WL.e_min2, WL.e_int1, WL.e_intB, WL.e_intI, WL.e_seqR, WL.e_seqF, WL.e_seqT, WL.e_seqS, WL.e_seqLR, WL.e_seqLF, WL.e_seqLS, WL.e_seqLT, WL.e_seqMR, WL.e_seqMF, WL.e_isL, WL.e_isLF, WL.e_isD, WL.e_ixF, WL.e_ixT, WL.e_ixS, WL.e_ixR, WL.e_ixX, WL.e_ixL, WL.e_ixD, WL.e_isR, WL.e_isD1, WL.e_isL1, WL.e_tyN, WL.e_tyB, WL.e_tyI, WL.e_tyS, WL.e_tyT, WL.e_tyF, WL.e_slF, WL.e_slR, WL.e_slS, WL.e_slT,
  WL.z_non, WL.z_bl, WL.z_int, WL.z_str, WL.z_tup, WL.z_fls, WL.updW_twice, WL.end_nx, WL.end_rt, WL.end_ex, WL.keyW, WL.kb_NoneType_int, WL.kb_NoneType_bool, WL.kb_NoneType_list, WL.kb_NoneType_tuple, WL.kb_NoneType_str, WL.kb_bool_int, WL.kb_bool_bool, WL.kb_bool_list, WL.kb_bool_tuple, WL.kb_bool_str, WL.kb_int_int, WL.kb_int_bool, WL.kb_int_list, WL.kb_int_tuple, WL.kb_int_str, WL.kb_str_int, WL.kb_str_bool, WL.kb_str_list, WL.kb_str_tuple, WL.kb_str_str, WL.kb_tuple_int, WL.kb_tuple_bool, WL.kb_tuple_list, WL.kb_tuple_tuple, WL.kb_tuple_str, WL.kb_list_int, WL.kb_list_bool, WL.kb_list_list, WL.kb_list_tuple, WL.kb_list_str, WL.kb_dict_int, WL.kb_dict_bool, WL.kb_dict_list, WL.kb_dict_tuple, WL.kb_dict_str,
  List.getElem?_cons_zero, List.getElem?_cons_succ, List.set_cons_zero, List.set_cons_succ, List.cons.injEq, List.length_cons, List.length_nil, Option.some.injEq, exists_eq_left, exists_eq_left', exists_eq, exists_eq', and_assoc, exists_and_left, true_and, and_true, false_and, and_false, exists_false, or_false, false_or, WL.W.int.injEq, WL.W.scr.injEq, Int.reduceLE, Int.reduceLT, Int.reduceNeg, WL.W.bl.injEq, WL.W.str.injEq, WL.W.ref.injEq, WL.W.fls.injEq, WL.W.tup.injEq, WL.HW.lst.injEq, WL.HW.dct.injEq, WL.HW.ins.injEq, reduceCtorEq, ↓reduceIte, Bool.false_eq_true, decide_eq_true_eq, Bool.not_true, Bool.not_false, Bool.not_eq_true', decide_eq_false_iff_not, WL.updW_same, WL.p_draw, WL.p_is_whole, WL.p_enough, WL.p_longest, WL.p_is_number, WL.p_hands, WL.p_thing_k01])
local macro_rules | `(tactic| walk_at "n") => `(tactic| ((try dsimp only); rw [WL.e_bcons]; walk_at "x"))
-- mac: p_draw p_is_whole p_enough p_longest p_is_number p_hands p_thing_k01
/-! ## law k01: the law -/
namespace WL
open PySem L2
theorem k01_loop1 {g : Gm} (hd : g.fn "_law_draw" p_draw) {ns : List Int} {a1 a2 a3 a4 a5 a6 : Option W} {p : Addr} {H : Hw} {D : EndW} :
    ∀ (n j : Nat) (rows : List (List Int)) (c9 c10 c11 c12 c13 : Option W) (cur : Option W), rows.length + n ≤ 100 → (∀ r ∈ rows, r.length ≤ 6) → (∀ rows' cur', rows'.length ≤ 100 → (∀ r ∈ rows', r.length ≤ 6) → D.nx [some (.scr ns), a1, a2, a3, a4, a5, a6, some (.ref p), cur', c9, c10, c11, c12, c13] (updW H p (.lst (rowsW rows')))) →
      loopW (fun _ => True) 8 (denB g b_law_k01_1) D ((List.range' j n).map fun (k : Nat) => W.int (k : Int)) [some (.scr ns), a1, a2, a3, a4, a5, a6, some (.ref p), cur, c9, c10, c11, c12, c13] (updW H p (.lst (rowsW rows))) := by
  intro n
  induction n with
  | zero => intro j rows c9 c10 c11 c12 c13 cur hl h6 h; exact ⟨trivial, h rows cur (by omega) h6⟩
  | succ n ih =>
    intro j rows c9 c10 c11 c12 c13 cur hl h6 h
    rw [List.range'_succ]
    refine ⟨trivial, ?_⟩
    rw [ub_law_k01_1]
    walk_at "s"
    refine ⟨_, hd, ?_⟩
    walk_at "s"
    refine ⟨by omega, ?_⟩
    generalize em : draw ns (6 + j) % 7 = m
    have m0 : 0 ≤ m := by rw [← em]; exact Int.emod_nonneg _ (by omega)
    have m1 : m < 7 := by rw [← em]; exact Int.emod_lt_of_pos _ (by omega)
    refine ⟨by omega, by omega, ?_⟩
    rw [rngW_nat]
    refine comp_all (g := g) (fun x => match x with | .int i => .int ((j : Int) + i) | w => w) ?_ (fun x hx q acc Q hq h => ?_) ?_ (newF ?_)
    · intros; trivial
    · obtain ⟨k, _, rfl⟩ := List.mem_map.mp hx
      walk_at "s"
      exact h
    · rw [List.length_map, List.length_range]
      exact Nat.le_trans (by omega : m.toNat ≤ 7) (by decide)
    · walk_at "s"
      refine ⟨by simp [rowsW]; exact Nat.lt_of_lt_of_le (by omega : rows.length < 101) (by decide), ?_⟩
      have e : rowsW rows ++ [W.fls (((List.range m.toNat).map fun (k : Nat) => W.int (k : Int)).map fun x => match x with | .int i => W.int ((j : Int) + i) | w => w)] = rowsW (rows ++ [(List.range m.toNat).map fun (k : Nat) => (j : Int) + k]) := by
        simp [rowsW, List.map_map, Function.comp_def]
      rw [e]
      refine ih (j + 1) _ _ _ _ _ _ _ (by simp; omega) (fun r hr => ?_) h
      rcases List.mem_append.mp hr with hr | hr
      · exact h6 r hr
      · rw [List.mem_singleton] at hr
        subst hr
        simp
        omega
theorem k01_loop2 {g : Gm} {w : W} {H : Hw} {all : List W} {D : EndW} (hs : seqA H w all) {a0 a1 a2 a3 a4 a5 a6 a7 a8 a11 a12 a13 : Option W} :
    ∀ (rows : List (List W)) (f : List W) (cur : Option W), (∀ cur', D.nx [a0, a1, a2, a3, a4, a5, a6, a7, a8, some (.fls (longestGo f rows)), cur', a11, a12, a13] H) →
      loopW (fun H => seqA H w all) 10 (denB g b_law_k01_2) D (rows.map W.fls) [a0, a1, a2, a3, a4, a5, a6, a7, a8, some (.fls f), cur, a11, a12, a13] H := by
  intro rows
  induction rows with
  | nil => intro f cur h; exact ⟨hs, h _⟩
  | cons r rs ih =>
    intro f cur h
    refine ⟨hs, ?_⟩
    rw [ub_law_k01_2]
    walk_at "s"
    by_cases q : f.length < r.length
    · have q' : (f.length : Int) < r.length := by omega
      simp only [q', if_true]
      refine ih r (some (.fls r)) fun cur' => ?_
      have := h cur'
      simp only [longestGo, q, if_true] at this
      exact this
    · have q' : ¬ (f.length : Int) < r.length := by omega
      simp only [q', if_false]
      refine ih f (some (.fls r)) fun cur' => ?_
      have := h cur'
      simp only [longestGo, q, if_false] at this
      exact this
theorem r_law_k01 {g : Gm} (hd : g.fn "_law_draw" p_draw) (hh : g.fn "_law_hands" p_hands) (he : g.fn "enough" p_enough) (hn : g.fn "_law_is_number" p_is_number) (ht : g.fn "_law_thing" p_thing_k01)
    (hi : g.fn "is_list" p_is_list) (hu : g.fn "_law_due" p_is_list) (hl : g.fn "longest" p_longest) (ws : List W) (H : Hw) (Q : KW) (E : EW) (h : spLaw ws H Q E) :
    denB g c_law_k01 (endOf Q (fun _ _ => False)) (startW ["_law_script", "_law_hands_here", "_law_count", "_law_thing_here", "_law_many", "_law_kept", "_law_found", "_law_rows", "_law_k", "_law_due_here", "_law_row", "_law_handed", "_law_made", "_law_j"] ws) H := by
  obtain ⟨ns, hns, rfl, rfl, hq⟩ := h
  show denB g c_law_k01 (endOf Q (fun _ _ => False)) [some (.scr ns), none, none, none, none, none, none, none, none, none, none, none, none, none] _
  have tru : ∀ H', (fun (w : W) (H : Hw) => Q w H) (.bl true) H' := hq
  clear hq
  unfold c_law_k01
  walk_at "n"
  refine ⟨_, hh, _, hd, ?_⟩
  walk_at "x"
  refine newF ?_
  generalize eb : 1 + draw ns 0 % 511 = b
  have b0 : 0 < b := by have := Int.emod_nonneg (draw ns 0) (show (511 : Int) ≠ 0 by decide); omega
  have b1 : b < 2 ^ 9 := by have := Int.emod_lt_of_pos (draw ns 0) (show (0 : Int) < 511 by decide); omega
  have l1 : handsOf b (Int.toNat 9) ≠ [] := handsGo_ne 9 0 b b0 b1
  have l2 : (handsOf b (Int.toNat 9)).length ≤ 9 := handsGo_len 9 0 b
  generalize handsOf b (Int.toNat 9) = l at l1 l2
  walk_at "n"
  refine ⟨_, he, ?_⟩
  walk_at "x"
  refine newF ?_
  walk_at "x"
  walk_at "n"
  refine ⟨_, hn, ?_⟩
  walk_at "x"
  refine ⟨.inl ⟨by decide, by decide⟩, ?_⟩
  simp only [isInt, List.length_map]
  walk_at "x"
  have c1 : (l.length : Int) < 2 * ((l.length / 2 + 1 : Nat) : Int) := by omega
  have c2 : ¬ (l.length : Int) < 2 * ((l.length / 2 + 1 : Nat) : Int) - 2 := by omega
  simp only [c1, c2, not_true_eq_false, if_false]
  refine ⟨.inl ⟨by decide, by decide⟩, ?_⟩
  walk_at "n"
  refine ⟨_, ht, ?_⟩
  walk_at "x"
  refine ⟨l, rfl, l1, l2, fun w wd w3 wl => ?_⟩
  walk_at "n"
  refine ⟨_, hd, ?_⟩
  walk_at "x"
  generalize em : 1 + draw ns 4 % 9 = m
  walk_at "n"
  -- behind the copy
  obtain ⟨r, hr⟩ : ∃ r : Bool, ∀ (Q : KW) (E : EW), Q (.bl r) (fun _ => none) → p_is_list [w, .int m] (fun _ => none) Q E := by
    cases w with
    | ref _ => cases wd
    | scr _ => cases wd
    | fls xs => exact ⟨isList xs m, fun Q E h => ⟨_, _, "list", rfl, rfl, .inr ⟨xs, rfl, rfl, .refl, wd, by have : deps xs + 1 ≤ 3 := w3; omega, wl, h⟩⟩⟩
    | _ => exact ⟨false, fun Q E h => ⟨_, _, _, rfl, rfl, .inl ⟨by decide, h⟩⟩⟩
  have go : denB g (c_law_k01.drop 6) (endOf Q fun x x_1 => False) [some (.scr ns), some (.fls (l.map W.int)), some (.int ↑(l.length / 2 + 1)), some w, some (.int m), some w, none, none, none, none, none, none, none, none] (fun _ => none) := by
    simp only [c_law_k01, List.drop_succ_cons, List.drop_zero]
    walk_at "n"
    refine ⟨_, hi, ?_⟩
    walk_at "x"
    refine hr _ _ ?_
    walk_at "n"
    refine ⟨_, hu, ?_⟩
    walk_at "x"
    refine hr _ _ ?_
    walk_at "x"
    rw [beq_self_eq_true]
    walk_at "x"
    refine ned_of (x' := w) (y' := w) .refl .refl wd wd (by omega) (by omega) ?_
    rw [eqv_refl]
    walk_at "x"
    walk_at "n"
    refine ⟨Nat.zero_le _, newR fun p hp => ?_⟩
    walk_at "n"
    refine ⟨_, hd, ?_⟩
    walk_at "x"
    generalize ek : draw ns 5 % 6 = k
    have k0 : 0 ≤ k := by rw [← ek]; exact Int.emod_nonneg _ (by omega)
    have k1 : k < 6 := by rw [← ek]; exact Int.emod_lt_of_pos _ (by omega)
    refine ⟨by omega, by omega, ?_⟩
    rw [rngW_nat, List.range_eq_range']
    refine k01_loop1 hd k.toNat 0 [] _ _ _ _ _ _ (by simp; omega) (fun r hr => by cases hr) fun rows cur hrl hr6 => ?_
    walk_at "n"
    refine ⟨Nat.zero_le _, newF ?_⟩
    walk_at "n"
    rw [rowsW_fls]
    refine k01_loop2 (w := .ref p) updW_same _ [] _ fun cur' => ?_
    walk_at "n"
    refine comp_all (g := g) (fun x => x) (fun q acc hq => ?_) (fun x hx q acc Q hq h => ?_) ?_ (newF ?_)
    · have : p ≠ q := neW_none updW_same hq
      rw [updW_ne this, updW_same]
    · obtain ⟨r, _, rfl⟩ := List.mem_map.mp hx
      walk_at "x"
      exact newF h
    · rw [List.length_map, List.length_map]
      exact Nat.le_trans hrl (by decide)
    rw [List.map_id']
    walk_at "n"
    refine ⟨_, hl, ?_⟩
    walk_at "x"
    refine ⟨_, rfl, newR fun q hq => ?_⟩
    have hpq : p ≠ q := neW_none updW_same hq
    rw [← rowsW_fls]
    rw [← rowsW_fls] at hq
    have nbl := longest_nb (rows.map fun r => r.map W.int) [] rfl (Nat.zero_le _) (fun r hr => by
      obtain ⟨r', _, rfl⟩ := List.mem_map.mp hr
      exact ⟨nbs_ints r', by rw [deps_ints]; exact Nat.zero_le _⟩)
    walk_at "n"
    refine ⟨_, ty_lst updW_same, _, kb_list_list, ?_⟩
    walk_at "x"
    refine ne_of (.ref updW_same) .refl nbl.1 nbl.1 (by show deps _ + 1 ≤ 64; have := nbl.2; simp only [longestOf] at this ⊢; omega) (by show deps _ + 1 ≤ 64; have := nbl.2; omega) fun b hb => ?_
    have : b = false := by
      cases b with
      | false => rfl
      | true => exact absurd rfl (hb.mp rfl)
    subst this
    walk_at "x"
    have dr := dep_rows rows
    refine ne_of (x' := .fls (rowsW rows)) (y' := .fls (rowsW rows)) .refl (.ref (by rw [updW_ne hpq]; exact updW_same)) (nbs_rows rows) (nbs_rows rows) (by show deps _ + 1 ≤ 64; omega) (by show deps _ + 1 ≤ 64; omega) fun b hb => ?_
    have : b = false := by
      cases b with
      | false => rfl
      | true => exact absurd rfl (hb.mp rfl)
    subst this
    walk_at "x"
    walk_at "n"
    have hl6 := longest_len (rows.map fun r => r.map W.int) [] 6 (Nat.zero_le _) (fun r hr => by
      obtain ⟨r', h', rfl⟩ := List.mem_map.mp hr
      simpa using hr6 r' h')
    refine ⟨Nat.lt_of_le_of_lt hl6 (by decide), ?_⟩
    walk_at "n"
    refine eq_of (x' := .fls (rowsW rows)) (y' := .fls (rowsW rows)) .refl (.ref (by rw [updW_ne hpq]; exact updW_same)) (nbs_rows rows) (nbs_rows rows) (by show deps _ + 1 ≤ 64; omega) (by show deps _ + 1 ≤ 64; omega) fun b hb => ?_
    have : b = true := hb.mpr rfl
    subst this
    exact tru _
  have tl : ∃ t, tyW (fun _ => none) w = some t := ty_isD wd _
  obtain ⟨t, tl⟩ := tl
  cases w with
  | ref _ => cases wd
  | scr _ => cases wd
  | fls xs => 
    walk_at "x"
    exact newF go
  | _ =>
    walk_at "x"
    exact go
end WL

namespace Tk01
open PySem PySem.Spec PyProof.Rows L2
def top (i : Nat) : Stmt := PySem.Challenge.pw_folklist_k01_enough_and_longest.main.body.getD i (.Pass ⟨0, 0, 0, 0⟩)
abbrev st0 : Stmt := top 1
def d0 : He.DefD := ⟨("is_whole", none), "is_whole", "is_whole", defArgs st0, defBody st0, defScope st0, [], []⟩
abbrev st1 : Stmt := top 2
def d1 : He.DefD := ⟨("is_list", none), "is_list", "is_list", defArgs st1, defBody st1, defScope st1, [], []⟩
abbrev st2 : Stmt := top 3
def d2 : He.DefD := ⟨("enough", none), "enough", "enough", defArgs st2, defBody st2, defScope st2, [], []⟩
abbrev st3 : Stmt := top 4
def d3 : He.DefD := ⟨("longest", none), "longest", "longest", defArgs st3, defBody st3, defScope st3, [], []⟩
abbrev st4 : Stmt := top 6
def d4 : He.DefD := ⟨("_law_draw", none), "_law_draw", "_law_draw", defArgs st4, defBody st4, defScope st4, [], []⟩
abbrev st5 : Stmt := top 7
def d5 : He.DefD := ⟨("_law_is_number", none), "_law_is_number", "_law_is_number", defArgs st5, defBody st5, defScope st5, [], []⟩
abbrev st6 : Stmt := top 8
def d6 : He.DefD := ⟨("_law_hands", none), "_law_hands", "_law_hands", defArgs st6, defBody st6, defScope st6, [], []⟩
abbrev st7 : Stmt := top 9
def d7 : He.DefD := ⟨("_law_thing", none), "_law_thing", "_law_thing", defArgs st7, defBody st7, defScope st7, [], []⟩
abbrev st8 : Stmt := top 10
def d8 : He.DefD := ⟨("_law_due", none), "_law_due", "_law_due", defArgs st8, defBody st8, defScope st8, [], []⟩
abbrev st9 : Stmt := top 11
def d9 : He.DefD := ⟨("law", none), "law", "law", defArgs st9, defBody st9, defScope st9, [], []⟩
def fn : List He.DefD := [d0, d1, d2, d3, d4, d5, d6, d7, d8, d9]
def fa : List He.Fa := [.glo "is_whole",
  .glo "is_list",
  .glo "enough",
  .glo "longest",
  .glo "_law_draw",
  .glo "_law_is_number",
  .glo "_law_hands",
  .glo "_law_thing",
  .glo "_law_due",
  .glo "law",
  .free "len",
  .free "isinstance",
  .free "int",
  .free "bool",
  .free "list",
  .free "tuple",
  .free "range",
  .free "sorted",
  .free "max",
  .free "min",
  .free "set",
  .free "str",
  .free "ValueError"]
def loose0 : List PySem.Str := ["is_whole", "is_list", "enough", "longest", "_law_draw", "_law_is_number", "_law_hands", "_law_thing", "_law_due"]
def loose : List PySem.Str := loose0
abbrev R : PySem.W.OpenRow := PySem.W.OpenLaw.row PySem.Challenge.rw_folklist_k01_enough_and_longest
abbrev hk : PySem.W.Hook := He.hookD 4 fa fn
def ob (s : PySem.W.SharedT) : He.AlD := He.obsDG 4 fa fn (HandSHeadRun.getT s)
theorem ob_eq (s : PySem.W.SharedT) : ob s = hk.obs s.abs := He.obsDG_eq (HandSHeadRun.getT_eq s)
theorem run (w : World) : HandSHeadRun.RunEq R (PySem.W.view R.prog [11]) hk ob 6000 loose w := by
  intro os
  kernel_rfl
end Tk01
namespace Tk01
open PySem PySem.Spec PyProof.Rows L2 WL
theorem cd0 : cDef ["thing"] ["thing"] (defScope st0) (defBody st0) = some c_is_whole := by kernel_rfl
theorem cd1 : cDef ["thing", "many", "ahead", "hand"] ["thing", "many"] (defScope st1) (defBody st1) = some c_is_list := by kernel_rfl
theorem cd2 : cDef ["members"] ["members"] (defScope st2) (defBody st2) = some c_enough := by kernel_rfl
theorem cd3 : cDef ["rows", "found", "row"] ["rows"] (defScope st3) (defBody st3) = some c_longest := by kernel_rfl
theorem cd4 : cDef ["_law_script", "_law_k"] ["_law_script", "_law_k"] (defScope st4) (defBody st4) = some c_law_draw := by kernel_rfl
theorem cd5 : cDef ["_law_found"] ["_law_found"] (defScope st5) (defBody st5) = some c_law_is_number := by kernel_rfl
theorem cd6 : cDef ["_law_bits", "_law_many", "_law_found", "_law_hand"] ["_law_bits", "_law_many"] (defScope st6) (defBody st6) = some c_law_hands := by kernel_rfl
theorem cd7 : cDef ["_law_script", "_law_hands_here", "_law_way", "_law_at", "_law_odd"] ["_law_script", "_law_hands_here"] (defScope st7) (defBody st7) = some c_law_thing := by kernel_rfl
theorem cd8 : cDef ["_law_thing_here", "_law_many", "_law_k"] ["_law_thing_here", "_law_many"] (defScope st8) (defBody st8) = some c_law_due_k01 := by kernel_rfl
theorem cd9 : cDef ["_law_script", "_law_hands_here", "_law_count", "_law_thing_here", "_law_many", "_law_kept", "_law_found", "_law_rows", "_law_k", "_law_due_here", "_law_row", "_law_handed", "_law_made", "_law_j"] ["_law_script"] (defScope st9) (defBody st9) = some c_law_k01 := by kernel_rfl
section
variable {P : Program} {w : World} {K : PySem.W.Frag} {mg : Str → Option Value} {base h : Heap}
structure Kn (K : PySem.W.Frag) (mg : Str → Option Value) : Prop where
  free : FreeM mg
  says : He.SaysD fa fn K
  g_is_whole : mg "is_whole" = some (.ref (He.ga K "is_whole"))
  g_is_list : mg "is_list" = some (.ref (He.ga K "is_list"))
  g_enough : mg "enough" = some (.ref (He.ga K "enough"))
  g_longest : mg "longest" = some (.ref (He.ga K "longest"))
  g__law_draw : mg "_law_draw" = some (.ref (He.ga K "_law_draw"))
  g__law_is_number : mg "_law_is_number" = some (.ref (He.ga K "_law_is_number"))
  g__law_hands : mg "_law_hands" = some (.ref (He.ga K "_law_hands"))
  g__law_thing : mg "_law_thing" = some (.ref (He.ga K "_law_thing"))
  g__law_due : mg "_law_due" = some (.ref (He.ga K "_law_due"))
  g_law : mg "law" = some (.ref (He.ga K "law"))
theorem known (X : K.In h) (G : h.Ns mainGlobals mg) (c : He.SaysD fa fn K) : Kn K mg where
  free := fun x hx => by
    rcases hx with rfl | rfl | rfl | rfl | rfl | rfl | rfl | rfl | rfl | rfl | rfl
    · exact He.free_ok X G (c.fact 10 (f := .free "len") rfl)
    · exact He.free_ok X G (c.fact 14 (f := .free "list") rfl)
    · exact He.free_ok X G (c.fact 15 (f := .free "tuple") rfl)
    · exact He.free_ok X G (c.fact 17 (f := .free "sorted") rfl)
    · exact He.free_ok X G (c.fact 18 (f := .free "max") rfl)
    · exact He.free_ok X G (c.fact 19 (f := .free "min") rfl)
    · exact He.free_ok X G (c.fact 12 (f := .free "int") rfl)
    · exact He.free_ok X G (c.fact 13 (f := .free "bool") rfl)
    · exact He.free_ok X G (c.fact 21 (f := .free "str") rfl)
    · exact He.free_ok X G (c.fact 11 (f := .free "isinstance") rfl)
    · exact He.free_ok X G (c.fact 16 (f := .free "range") rfl)
  says := c
  g_is_whole := He.glo_ok X G (c.fact 0 (f := .glo "is_whole") rfl)
  g_is_list := He.glo_ok X G (c.fact 1 (f := .glo "is_list") rfl)
  g_enough := He.glo_ok X G (c.fact 2 (f := .glo "enough") rfl)
  g_longest := He.glo_ok X G (c.fact 3 (f := .glo "longest") rfl)
  g__law_draw := He.glo_ok X G (c.fact 4 (f := .glo "_law_draw") rfl)
  g__law_is_number := He.glo_ok X G (c.fact 5 (f := .glo "_law_is_number") rfl)
  g__law_hands := He.glo_ok X G (c.fact 6 (f := .glo "_law_hands") rfl)
  g__law_thing := He.glo_ok X G (c.fact 7 (f := .glo "_law_thing") rfl)
  g__law_due := He.glo_ok X G (c.fact 8 (f := .glo "_law_due") rfl)
  g_law := He.glo_ok X G (c.fact 9 (f := .glo "law") rfl)
theorem o0 (B : Kn K mg) : (Gk P w K mg base 2).fn "is_whole" p_is_whole := by
  obtain ⟨fd, F⟩ := B.says.def_ 0 (d := d0) rfl
  exact fn_in (k := 0) F B.g_is_whole (FunD.bindsN F fun _ _ _ _ _ _ us hl => match us, hl with | [_], _ => rfl) B.free cd0 (fun ws H Q E h => by first | (obtain ⟨rfl, _⟩ := h; rfl) | (obtain ⟨_, rfl, _⟩ := h; rfl) | (obtain ⟨_, _, rfl, _⟩ := h; rfl) | (obtain ⟨_, _, _, rfl, _⟩ := h; rfl) | (obtain ⟨_, _, _, _, rfl, _⟩ := h; rfl) | (obtain ⟨_, _, _, _, _, rfl, _⟩ := h; rfl) | (obtain ⟨_, _, _, _, _, _, rfl, _⟩ := h; rfl) | (obtain ⟨_, _, _, _, _, _, _, rfl, _⟩ := h; rfl)) (fun ws H Q E h => r_is_whole  ws H Q E h)
theorem o1 (B : Kn K mg) : (Gk P w K mg base 4).fn "is_list" p_is_list := by
  obtain ⟨fd, F⟩ := B.says.def_ 1 (d := d1) rfl
  exact fn_in (k := 2) F B.g_is_list (FunD.bindsN F fun _ _ _ _ _ _ us hl => match us, hl with | [_, _], _ => rfl) B.free cd1 (fun ws H Q E h => by first | (obtain ⟨rfl, _⟩ := h; rfl) | (obtain ⟨_, rfl, _⟩ := h; rfl) | (obtain ⟨_, _, rfl, _⟩ := h; rfl) | (obtain ⟨_, _, _, rfl, _⟩ := h; rfl) | (obtain ⟨_, _, _, _, rfl, _⟩ := h; rfl) | (obtain ⟨_, _, _, _, _, rfl, _⟩ := h; rfl) | (obtain ⟨_, _, _, _, _, _, rfl, _⟩ := h; rfl) | (obtain ⟨_, _, _, _, _, _, _, rfl, _⟩ := h; rfl)) (fun ws H Q E h => r_is_list (Gk.fn_up (o0 B) (by decide)) ws H Q E h)
theorem o2 (B : Kn K mg) : (Gk P w K mg base 6).fn "enough" p_enough := by
  obtain ⟨fd, F⟩ := B.says.def_ 2 (d := d2) rfl
  exact fn_in (k := 4) F B.g_enough (FunD.bindsN F fun _ _ _ _ _ _ us hl => match us, hl with | [_], _ => rfl) B.free cd2 (fun ws H Q E h => by first | (obtain ⟨rfl, _⟩ := h; rfl) | (obtain ⟨_, rfl, _⟩ := h; rfl) | (obtain ⟨_, _, rfl, _⟩ := h; rfl) | (obtain ⟨_, _, _, rfl, _⟩ := h; rfl) | (obtain ⟨_, _, _, _, rfl, _⟩ := h; rfl) | (obtain ⟨_, _, _, _, _, rfl, _⟩ := h; rfl) | (obtain ⟨_, _, _, _, _, _, rfl, _⟩ := h; rfl) | (obtain ⟨_, _, _, _, _, _, _, rfl, _⟩ := h; rfl)) (fun ws H Q E h => r_enough  ws H Q E h)
theorem o3 (B : Kn K mg) : (Gk P w K mg base 8).fn "longest" p_longest := by
  obtain ⟨fd, F⟩ := B.says.def_ 3 (d := d3) rfl
  exact fn_in (k := 6) F B.g_longest (FunD.bindsN F fun _ _ _ _ _ _ us hl => match us, hl with | [_], _ => rfl) B.free cd3 (fun ws H Q E h => by first | (obtain ⟨rfl, _⟩ := h; rfl) | (obtain ⟨_, rfl, _⟩ := h; rfl) | (obtain ⟨_, _, rfl, _⟩ := h; rfl) | (obtain ⟨_, _, _, rfl, _⟩ := h; rfl) | (obtain ⟨_, _, _, _, rfl, _⟩ := h; rfl) | (obtain ⟨_, _, _, _, _, rfl, _⟩ := h; rfl) | (obtain ⟨_, _, _, _, _, _, rfl, _⟩ := h; rfl) | (obtain ⟨_, _, _, _, _, _, _, rfl, _⟩ := h; rfl)) (fun ws H Q E h => r_longest  ws H Q E h)
theorem o4 (B : Kn K mg) : (Gk P w K mg base 10).fn "_law_draw" p_draw := by
  obtain ⟨fd, F⟩ := B.says.def_ 4 (d := d4) rfl
  exact fn_in (k := 8) F B.g__law_draw (FunD.bindsN F fun _ _ _ _ _ _ us hl => match us, hl with | [_, _], _ => rfl) B.free cd4 (fun ws H Q E h => by first | (obtain ⟨rfl, _⟩ := h; rfl) | (obtain ⟨_, rfl, _⟩ := h; rfl) | (obtain ⟨_, _, rfl, _⟩ := h; rfl) | (obtain ⟨_, _, _, rfl, _⟩ := h; rfl) | (obtain ⟨_, _, _, _, rfl, _⟩ := h; rfl) | (obtain ⟨_, _, _, _, _, rfl, _⟩ := h; rfl) | (obtain ⟨_, _, _, _, _, _, rfl, _⟩ := h; rfl) | (obtain ⟨_, _, _, _, _, _, _, rfl, _⟩ := h; rfl)) (fun ws H Q E h => r_draw  ws H Q E h)
theorem o5 (B : Kn K mg) : (Gk P w K mg base 12).fn "_law_is_number" p_is_number := by
  obtain ⟨fd, F⟩ := B.says.def_ 5 (d := d5) rfl
  exact fn_in (k := 10) F B.g__law_is_number (FunD.bindsN F fun _ _ _ _ _ _ us hl => match us, hl with | [_], _ => rfl) B.free cd5 (fun ws H Q E h => by first | (obtain ⟨rfl, _⟩ := h; rfl) | (obtain ⟨_, rfl, _⟩ := h; rfl) | (obtain ⟨_, _, rfl, _⟩ := h; rfl) | (obtain ⟨_, _, _, rfl, _⟩ := h; rfl) | (obtain ⟨_, _, _, _, rfl, _⟩ := h; rfl) | (obtain ⟨_, _, _, _, _, rfl, _⟩ := h; rfl) | (obtain ⟨_, _, _, _, _, _, rfl, _⟩ := h; rfl) | (obtain ⟨_, _, _, _, _, _, _, rfl, _⟩ := h; rfl)) (fun ws H Q E h => r_is_number  ws H Q E h)
theorem o6 (B : Kn K mg) : (Gk P w K mg base 14).fn "_law_hands" p_hands := by
  obtain ⟨fd, F⟩ := B.says.def_ 6 (d := d6) rfl
  exact fn_in (k := 12) F B.g__law_hands (FunD.bindsN F fun _ _ _ _ _ _ us hl => match us, hl with | [_, _], _ => rfl) B.free cd6 (fun ws H Q E h => by first | (obtain ⟨rfl, _⟩ := h; rfl) | (obtain ⟨_, rfl, _⟩ := h; rfl) | (obtain ⟨_, _, rfl, _⟩ := h; rfl) | (obtain ⟨_, _, _, rfl, _⟩ := h; rfl) | (obtain ⟨_, _, _, _, rfl, _⟩ := h; rfl) | (obtain ⟨_, _, _, _, _, rfl, _⟩ := h; rfl) | (obtain ⟨_, _, _, _, _, _, rfl, _⟩ := h; rfl) | (obtain ⟨_, _, _, _, _, _, _, rfl, _⟩ := h; rfl)) (fun ws H Q E h => r_hands  ws H Q E h)
theorem o7 (B : Kn K mg) : (Gk P w K mg base 16).fn "_law_thing" p_thing_k01 := by
  obtain ⟨fd, F⟩ := B.says.def_ 7 (d := d7) rfl
  exact fn_in (k := 14) F B.g__law_thing (FunD.bindsN F fun _ _ _ _ _ _ us hl => match us, hl with | [_, _], _ => rfl) B.free cd7 (fun ws H Q E h => by first | (obtain ⟨rfl, _⟩ := h; rfl) | (obtain ⟨_, rfl, _⟩ := h; rfl) | (obtain ⟨_, _, rfl, _⟩ := h; rfl) | (obtain ⟨_, _, _, rfl, _⟩ := h; rfl) | (obtain ⟨_, _, _, _, rfl, _⟩ := h; rfl) | (obtain ⟨_, _, _, _, _, rfl, _⟩ := h; rfl) | (obtain ⟨_, _, _, _, _, _, rfl, _⟩ := h; rfl) | (obtain ⟨_, _, _, _, _, _, _, rfl, _⟩ := h; rfl)) (fun ws H Q E h => r_thing_k01 (Gk.fn_up (o4 B) (by decide)) ws H Q E h)
theorem o8 (B : Kn K mg) : (Gk P w K mg base 18).fn "_law_due" p_is_list := by
  obtain ⟨fd, F⟩ := B.says.def_ 8 (d := d8) rfl
  exact fn_in (k := 16) F B.g__law_due (FunD.bindsN F fun _ _ _ _ _ _ us hl => match us, hl with | [_, _], _ => rfl) B.free cd8 (fun ws H Q E h => by first | (obtain ⟨rfl, _⟩ := h; rfl) | (obtain ⟨_, rfl, _⟩ := h; rfl) | (obtain ⟨_, _, rfl, _⟩ := h; rfl) | (obtain ⟨_, _, _, rfl, _⟩ := h; rfl) | (obtain ⟨_, _, _, _, rfl, _⟩ := h; rfl) | (obtain ⟨_, _, _, _, _, rfl, _⟩ := h; rfl) | (obtain ⟨_, _, _, _, _, _, rfl, _⟩ := h; rfl) | (obtain ⟨_, _, _, _, _, _, _, rfl, _⟩ := h; rfl)) (fun ws H Q E h => r_due_k01 (Gk.fn_up (o5 B) (by decide)) ws H Q E h)
theorem o9 (B : Kn K mg) {fd : FuncData} (F : FunD K "law" "law" (defArgs st9) (defBody st9) (defScope st9) [] [] (He.ga K "law") fd) : FnOk P w K mg base L2.CX0 20 (He.ga K "law") fd ["_law_script"] (lowSp K spLaw) :=
  law_in (k := 18) F B.free cd9 (fun ws H Q E h => by obtain ⟨_, _, rfl, _⟩ := h; rfl) (fun ws H Q E h => r_law_k01 (Gk.fn_up (o4 B) (by decide)) (Gk.fn_up (o6 B) (by decide)) (Gk.fn_up (o2 B) (by decide)) (Gk.fn_up (o5 B) (by decide)) (Gk.fn_up (o7 B) (by decide)) (Gk.fn_up (o1 B) (by decide)) (Gk.fn_up (o8 B) (by decide)) (Gk.fn_up (o3 B) (by decide)) ws H Q E h)
end
theorem facts {P : Program} {w : World} {K : PySem.W.Frag} {h : Heap} {mg : Str → Option Value} {f : Addr} (X : K.In h) (G : h.Ns mainGlobals mg) (hfa : mg ("law" : Str) = some (.ref f)) (c : He.SaysD fa fn K) :
    ∃ fd : FuncData, (∀ (s : Shared) (v : Value), BindsTo s fd ⟨[v], []⟩ [("_law_script", v)]) ∧ ∀ base : Heap, K.In base → base.Ns mainGlobals mg → FnOk P w K mg base L2.CX0 20 f fd ["_law_script"] (lowSp K spLaw) := by
  have B := known X G c
  obtain ⟨fd, F⟩ := c.def_ 9 (d := d9) rfl
  have e := hfa.symm.trans B.g_law
  cases e
  have b := FunD.bindsA (ps := ["_law_script"]) F fun _ _ _ _ _ _ us hl => match us, hl with | [_], _ => rfl
  exact ⟨fd, fun s v => b s [v] rfl, fun base _ _ => o9 B F⟩
end Tk01
open PySem PySem.W PySem.Calls PyProof.Rows
theorem PySem.Challenge.cw_folklist_k01_enough_and_longest_holds : PySem.Challenge.rw_folklist_k01_enough_and_longest.Holds := by
  w_on; o_law
  refine HandSHeadRun.head_any (r := OpenLaw.row PySem.Challenge.rw_folklist_k01_enough_and_longest) (q := view (OpenLaw.row PySem.Challenge.rw_folklist_k01_enough_and_longest).prog [11]) (H := Tk01.hk) (ob := Tk01.ob) (M := 6000) (loose := Tk01.loose) (d := HandSHeadRun.topDef (OpenLaw.row PySem.Challenge.rw_folklist_k01_enough_and_longest).prog 11) (kwd := []) Tk01.ob_eq
    (by kernel_rfl) (fun s => by kernel_rfl) Tk01.run (by kernel_rfl) (by kernel_rfl) (by kernel_rfl) (by rfl) (by first | assumption | decide +kernel) (by decide +kernel) ⟨rfl, rfl, rfl, rfl, rfl, by decide +kernel⟩ ?hw ?hc
  case hw => w_witness2
  case hc =>
    refine L2.walk_ofE (l := PySem.Challenge.rw_folklist_k01_enough_and_longest) (n := 63) (k := 20) (x := "_law_script") (CX := L2.CX0) rfl (by decide) (by kernel_rfl) ⟨rfl, by decide, by decide⟩ ?F (fun _ _ _ _ z => z)
    intro w mg fa h Y G hmg0
    obtain ⟨K, KX, c⟩ := Y
    have hmg : mg ("law" : PySem.Str) = some (.ref fa) := by
      have e : (HandSHeadRun.topDef (OpenLaw.row PySem.Challenge.rw_folklist_k01_enough_and_longest).prog 11).name = ("law" : PySem.Str) := by kernel_rfl
      rw [← e]
      exact hmg0
    obtain ⟨fd, hb, hF⟩ := Tk01.facts (P := (PySem.Challenge.rw_folklist_k01_enough_and_longest).prog) (w := w) KX G hmg c
    exact ⟨K, fd, WL.lowSp K WL.spLaw, KX, hb, fun H a ns hl _ hS => WL.spLaw_low hl hS, hF⟩
