import PyProof.Rows.All
import Wide.All
import OpenK.AllK
import Wide.FinOn
import PySem.Challenge.RW_answernow_k83_whole_forests_towers
import HandS.ForMost
import HandS.Wide
import HandS.TupAny
import HandS.Deep
import HandS.SortInts
import HandS.RaiseMore
import HandS.IsInst
import HandS.Zip
import HandS.SetFor
import PyProof.ReprRoads
import KE.DataMinMax
import HandS.Conv
import KE.GoesEnum
import KE.GoesZip
import HandS.Rev
import HandS.Comp
import HandS.Style
import HandS.Words
import PyProof.ListRange
import HandS.BoundDict
import HandS.TupMul
import HandS.Ends
set_option Elab.async false
set_option linter.all false
set_option maxRecDepth 100000
set_option autoImplicit false
/-! Mz1: plain data at values, what an expression gives, the state of a def as plain data, and how both stand in the abstract heap. -/
namespace Mz
open PySem PySem.Spec L2
open PyProof.Rows hiding St

abbrev Av := Addr → Prop

/-- a key of a dict as data -/
def keyD : PyData → Option Key
  | .int i => some (.inl i)
  | .str x => some (.inr x)
  | _ => none

mutual
/-- the value v is the data d, none of whose lists and dicts stands at an address of S -/
def Rp (K : PySem.W.Frag) (S : Av) (H : Hp) : PyData → V → Prop
  | .none, v => v = .non
  | .bool b, v => v = .bl b
  | .int i, v => v = .int i
  | .str x, v => v = .str x
  | .list ds, v => ∃ a xs, v = .ref a ∧ ¬ S a ∧ H a = some (.lst xs) ∧ RpA K S H ds xs
  | .tuple ds, v => ∃ a xs, v = .ref a ∧ SqT K H a xs ∧ RpA K S H ds xs
  | .dict kvs, v => ∃ a es, v = .ref a ∧ ¬ S a ∧ H a = some (.dK es) ∧ RpK K S H kvs es
def RpA (K : PySem.W.Frag) (S : Av) (H : Hp) : List PyData → List V → Prop
  | [], xs => xs = []
  | d :: ds, xs => ∃ x r, xs = x :: r ∧ Rp K S H d x ∧ RpA K S H ds r
def RpK (K : PySem.W.Frag) (S : Av) (H : Hp) : List (PyData × PyData) → List (Key × V) → Prop
  | [], es => es = []
  | (k, d) :: kvs, es => ∃ e r, es = e :: r ∧ keyD k = some e.1 ∧ Rp K S H d e.2 ∧ RpK K S H kvs r
end

/-- what is kept from H to H': all but lists at addresses of O -/
structure Kp (O : Av) (H H' : Hp) : Prop where
  at' : ∀ a u, H a = some u → (O a → ∀ xs, u ≠ .lst xs) → H' a = some u
  tr : ∀ a, H a ≠ none → H' a ≠ none
def Ext (H H' : Hp) : Prop := ∀ a u, H a = some u → H' a = some u
theorem Ext.refl {H : Hp} : Ext H H := fun _ _ h => h
theorem Ext.trans {H H1 H2 : Hp} (a : Ext H H1) (b : Ext H1 H2) : Ext H H2 := fun x u h => b x u (a x u h)
theorem Ext.kp {O : Av} {H H' : Hp} (e : Ext H H') : Kp O H H' := ⟨fun a u h _ => e a u h, fun a h => by
  cases q : H a with
  | none => exact absurd q h
  | some u => rw [e a u q]; exact fun z => nomatch z⟩
theorem Ext.upd {H : Hp} {p : Addr} {o : HO} (h : H p = none) : Ext H (upd H p o) := fun a u e => by
  rw [upd_ne (ne_of_none e h)]; exact e
theorem Kp.refl {O : Av} {H : Hp} : Kp O H H := ⟨fun _ _ h _ => h, fun _ h => h⟩
theorem Kp.mono {O O' : Av} {H H' : Hp} (k : Kp O H H') (h : ∀ a, O a → O' a) : Kp O' H H' := ⟨fun a u e n => k.at' a u e fun o => n (h a o), k.tr⟩
theorem Kp.trans {O O1 : Av} {H H1 H2 : Hp} (a : Kp O H H1) (b : Kp O1 H1 H2) (h : ∀ x, O1 x → O x) : Kp O H H2 := ⟨fun x u e n => b.at' x u (a.at' x u e n) fun o => n (h x o), fun x e => b.tr x (a.tr x e)⟩
theorem Kp.rd {O : Av} {H H' : Hp} (k : Kp O H H') {a : Addr} {u : HO} (h : Rd H a u) (n : O a → ∀ xs, u ≠ .lst xs) : Rd H' a u := by
  rcases h with h | ⟨o, h⟩
  · exact .inl (k.at' a u h n)
  · exact .inr ⟨o, k.at' a _ h fun _ xs z => nomatch z⟩
theorem Kp.seqT {O : Av} {H H' : Hp} {K : PySem.W.Frag} (k : Kp O H H') {a : Addr} {xs : List V} (h : SqT K H a xs) : SqT K H' a xs := by
  rcases h with h | h
  · exact .inl (k.rd h fun _ xs z => nomatch z)
  · exact .inr h

theorem trk_of {H : Hp} {a : Addr} {u : HO} (h : H a = some u) : H a ≠ none := by rw [h]; exact fun z => nomatch z

mutual
theorem Rp.mv {K : PySem.W.Frag} {S S' : Av} {H H' : Hp} (h1 : ∀ a, S' a → S a ∨ H a = none) (h2 : Kp S H H') : ∀ {d : PyData} {v : V}, Rp K S H d v → Rp K S' H' d v
  | .none, _, h => by rw [Rp] at h ⊢; exact h
  | .bool _, _, h => by rw [Rp] at h ⊢; exact h
  | .int _, _, h => by rw [Rp] at h ⊢; exact h
  | .str _, _, h => by rw [Rp] at h ⊢; exact h
  | .list ds, v, h => by
    rw [Rp] at h ⊢
    obtain ⟨a, xs, e, n, r, q⟩ := h
    exact ⟨a, xs, e, fun z => (h1 a z).elim n (trk_of r), h2.at' a _ r fun z => absurd z n, RpA.mv h1 h2 q⟩
  | .tuple ds, v, h => by
    rw [Rp] at h ⊢
    obtain ⟨a, xs, e, r, q⟩ := h
    exact ⟨a, xs, e, h2.seqT r, RpA.mv h1 h2 q⟩
  | .dict kvs, v, h => by
    rw [Rp] at h ⊢
    obtain ⟨a, es, e, n, r, q⟩ := h
    exact ⟨a, es, e, fun z => (h1 a z).elim n (trk_of r), h2.at' a _ r fun z => absurd z n, RpK.mv h1 h2 q⟩
theorem RpA.mv {K : PySem.W.Frag} {S S' : Av} {H H' : Hp} (h1 : ∀ a, S' a → S a ∨ H a = none) (h2 : Kp S H H') : ∀ {ds : List PyData} {vs : List V}, RpA K S H ds vs → RpA K S' H' ds vs
  | [], _, h => by rw [RpA] at h ⊢; exact h
  | d :: ds, vs, h => by
    rw [RpA] at h ⊢
    obtain ⟨x, r, e, q1, q2⟩ := h
    exact ⟨x, r, e, Rp.mv h1 h2 q1, RpA.mv h1 h2 q2⟩
theorem RpK.mv {K : PySem.W.Frag} {S S' : Av} {H H' : Hp} (h1 : ∀ a, S' a → S a ∨ H a = none) (h2 : Kp S H H') : ∀ {ds : List (PyData × PyData)} {vs : List (Key × V)}, RpK K S H ds vs → RpK K S' H' ds vs
  | [], _, h => by rw [RpK] at h ⊢; exact h
  | (k, d) :: ds, vs, h => by
    rw [RpK] at h ⊢
    obtain ⟨x, r, e, q0, q1, q2⟩ := h
    exact ⟨x, r, e, q0, Rp.mv h1 h2 q1, RpK.mv h1 h2 q2⟩
end
theorem Rp.sub {K : PySem.W.Frag} {S S' : Av} {H : Hp} {d : PyData} {v : V} (h : Rp K S H d v) (h1 : ∀ a, S' a → S a) : Rp K S' H d v := h.mv (fun a z => .inl (h1 a z)) Kp.refl
theorem RpA.sub {K : PySem.W.Frag} {S S' : Av} {H : Hp} {d : List PyData} {v : List V} (h : RpA K S H d v) (h1 : ∀ a, S' a → S a) : RpA K S' H d v := h.mv (fun a z => .inl (h1 a z)) Kp.refl
theorem Rp.ext {K : PySem.W.Frag} {S : Av} {H H' : Hp} {d : PyData} {v : V} (h : Rp K S H d v) (e : Ext H H') : Rp K S H' d v := h.mv (fun a z => .inl z) e.kp
theorem RpA.ext {K : PySem.W.Frag} {S : Av} {H H' : Hp} {d : List PyData} {v : List V} (h : RpA K S H d v) (e : Ext H H') : RpA K S H' d v := h.mv (fun a z => .inl z) e.kp

theorem RpA.length {K : PySem.W.Frag} {S : Av} {H : Hp} : ∀ {ds : List PyData} {vs : List V}, RpA K S H ds vs → vs.length = ds.length
  | [], _, h => by rw [RpA] at h; rw [h]; rfl
  | d :: ds, vs, h => by
    rw [RpA] at h
    obtain ⟨x, r, rfl, _, q⟩ := h
    rw [List.length_cons, List.length_cons, RpA.length q]
theorem RpA.nil {K : PySem.W.Frag} {S : Av} {H : Hp} : RpA K S H [] [] := by rw [RpA]
theorem RpA.cons {K : PySem.W.Frag} {S : Av} {H : Hp} {d : PyData} {v : V} {ds : List PyData} {vs : List V} (h : Rp K S H d v) (t : RpA K S H ds vs) : RpA K S H (d :: ds) (v :: vs) := by
  rw [RpA]; exact ⟨v, vs, rfl, h, t⟩
theorem RpA.get {K : PySem.W.Frag} {S : Av} {H : Hp} : ∀ {ds : List PyData} {vs : List V} {i : Nat} {d : PyData}, RpA K S H ds vs → ds[i]? = some d → ∃ v, vs[i]? = some v ∧ Rp K S H d v
  | [], _, _, _, _, e => by simp at e
  | d :: ds, vs, i, _, h, e => by
    rw [RpA] at h
    obtain ⟨x, r, rfl, q1, q2⟩ := h
    cases i with
    | zero => simp at e; subst e; exact ⟨x, rfl, q1⟩
    | succ i =>
      obtain ⟨v, e1, e2⟩ := RpA.get (i := i) q2 (by simpa using e)
      exact ⟨v, by simpa using e1, e2⟩
theorem RpA.get' {K : PySem.W.Frag} {S : Av} {H : Hp} : ∀ {ds : List PyData} {vs : List V} {i : Nat} {v : V}, RpA K S H ds vs → vs[i]? = some v → ∃ d, ds[i]? = some d ∧ Rp K S H d v
  | [], _, _, _, h, e => by rw [RpA] at h; subst h; simp at e
  | d :: ds, vs, i, v, h, e => by
    rw [RpA] at h
    obtain ⟨x, r, rfl, q1, q2⟩ := h
    cases i with
    | zero => simp at e; subst e; exact ⟨d, rfl, q1⟩
    | succ i =>
      obtain ⟨d', e1, e2⟩ := RpA.get' (i := i) q2 (by simpa using e)
      exact ⟨d', by simpa using e1, e2⟩
theorem RpA.append {K : PySem.W.Frag} {S : Av} {H : Hp} : ∀ {ds es : List PyData} {vs ws : List V}, RpA K S H ds vs → RpA K S H es ws → RpA K S H (ds ++ es) (vs ++ ws)
  | [], _, _, _, h, k => by rw [RpA] at h; subst h; exact k
  | d :: ds, _, _, _, h, k => by
    rw [RpA] at h
    obtain ⟨x, r, rfl, q1, q2⟩ := h
    exact .cons q1 (RpA.append q2 k)
theorem RpA.take {K : PySem.W.Frag} {S : Av} {H : Hp} : ∀ (n : Nat) {ds : List PyData} {vs : List V}, RpA K S H ds vs → RpA K S H (ds.take n) (vs.take n)
  | 0, _, _, _ => by simpa using RpA.nil
  | n + 1, [], _, h => by rw [RpA] at h; subst h; simpa using RpA.nil
  | n + 1, d :: ds, _, h => by
    rw [RpA] at h
    obtain ⟨x, r, rfl, q1, q2⟩ := h
    exact .cons q1 (RpA.take n q2)
theorem RpA.drop {K : PySem.W.Frag} {S : Av} {H : Hp} : ∀ (n : Nat) {ds : List PyData} {vs : List V}, RpA K S H ds vs → RpA K S H (ds.drop n) (vs.drop n)
  | 0, _, _, h => h
  | n + 1, [], _, h => by rw [RpA] at h; subst h; simpa using RpA.nil
  | n + 1, d :: ds, _, h => by
    rw [RpA] at h
    obtain ⟨x, r, rfl, q1, q2⟩ := h
    exact RpA.drop n q2
theorem RpA.set {K : PySem.W.Frag} {S : Av} {H : Hp} {d : PyData} {v : V} (hd : Rp K S H d v) : ∀ (i : Nat) {ds : List PyData} {vs : List V}, RpA K S H ds vs → RpA K S H (ds.set i d) (vs.set i v)
  | _, [], _, h => by rw [RpA] at h; subst h; simpa using RpA.nil
  | 0, e :: ds, _, h => by
    rw [RpA] at h
    obtain ⟨x, r, rfl, q1, q2⟩ := h
    exact .cons hd q2
  | n + 1, e :: ds, _, h => by
    rw [RpA] at h
    obtain ⟨x, r, rfl, q1, q2⟩ := h
    exact .cons q1 (RpA.set hd n q2)
theorem RpA.of_get {K : PySem.W.Frag} {S : Av} {H : Hp} : ∀ {ds : List PyData} {vs : List V}, ds.length = vs.length → (∀ (i : Nat) (d : PyData) (v : V), ds[i]? = some d → vs[i]? = some v → Rp K S H d v) → RpA K S H ds vs
  | [], [], _, _ => RpA.nil
  | [], _ :: _, e, _ => by simp at e
  | _ :: _, [], e, _ => by simp at e
  | d :: ds, v :: vs, e, h => .cons (h 0 d v rfl rfl) (RpA.of_get (by simpa using e) fun i d v h1 h2 => h (i + 1) d v (by simpa using h1) (by simpa using h2))
theorem RpA.reverse {K : PySem.W.Frag} {S : Av} {H : Hp} {ds : List PyData} {vs : List V} (h : RpA K S H ds vs) : RpA K S H ds.reverse vs.reverse := by
  induction ds generalizing vs with
  | nil => rw [RpA] at h; subst h; exact RpA.nil
  | cons d ds ih =>
    rw [RpA] at h
    obtain ⟨x, r, rfl, q1, q2⟩ := h
    rw [List.reverse_cons, List.reverse_cons]
    exact (ih q2).append (.cons q1 .nil)

/-! ### no list, no dict within -/
mutual
def plain : PyData → Bool
  | .none => true
  | .bool _ => true
  | .int _ => true
  | .str _ => true
  | .list _ => false
  | .tuple ds => plainA ds
  | .dict _ => false
def plainA : List PyData → Bool
  | [] => true
  | d :: ds => plain d && plainA ds
end
mutual
theorem Rp.flat {K : PySem.W.Frag} {S S' : Av} {H : Hp} : ∀ {d : PyData} {v : V}, plain d = true → Rp K S H d v → Rp K S' H d v
  | .none, _, _, h => by rw [Rp] at h ⊢; exact h
  | .bool _, _, _, h => by rw [Rp] at h ⊢; exact h
  | .int _, _, _, h => by rw [Rp] at h ⊢; exact h
  | .str _, _, _, h => by rw [Rp] at h ⊢; exact h
  | .list ds, v, p, h => by simp [Mz.plain] at p
  | .tuple ds, v, p, h => by
    rw [Rp] at h ⊢
    rw [Mz.plain] at p
    obtain ⟨a, xs, e, r, q⟩ := h
    exact ⟨a, xs, e, r, RpA.flat p q⟩
  | .dict kvs, v, p, h => by simp [Mz.plain] at p
theorem RpA.flat {K : PySem.W.Frag} {S S' : Av} {H : Hp} : ∀ {ds : List PyData} {vs : List V}, plainA ds = true → RpA K S H ds vs → RpA K S' H ds vs
  | [], _, _, h => by rw [RpA] at h ⊢; exact h
  | d :: ds, vs, p, h => by
    rw [RpA] at h ⊢
    rw [plainA, Bool.and_eq_true] at p
    obtain ⟨x, r, e, q1, q2⟩ := h
    exact ⟨x, r, e, Rp.flat p.1 q1, RpA.flat p.2 q2⟩
end

/-! ### the state of a def -/
/-- what an expression gives: data; a new list that nothing else refers to; the list of a slot; the bag -/
inductive U where
  | d (x : PyData) | nw (xs : List PyData) | loc (i : Nat) | bag
/-- a slot: nothing; data; a list that nothing else refers to; the same while it is walked; the bag -/
inductive Sl where
  | no | val (x : PyData) | own (xs : List PyData) | lck (xs : List PyData) | bag
/-- the bag: cells still to come, digits left, the mixed number -/
structure Bg where
  cells : List Int
  cur : Int
  mix : Int
structure Z where
  r : List Sl
  b : Bg
abbrev Gb := Option (Addr × Addr)
def GbA (g : Gb) : Av := fun a => ∃ b c, g = some (b, c) ∧ (a = b ∨ a = c)
def BagAt (H : Hp) (b c : Addr) (β : Bg) : Prop := b ≠ c ∧ H b = some (.lst [.ref c, .int β.cur, .int β.mix]) ∧ H c = some (.lst (β.cells.map V.int))
def BagOk (g : Gb) (H : Hp) (β : Bg) : Prop := ∀ b c, g = some (b, c) → BagAt H b c β
def ownL : Sl → Option (List PyData)
  | .own xs => some xs
  | .lck xs => some xs
  | _ => none
/-- the slot i has a list of its own, xs -/
def OwnAt (r : List Sl) (i : Nat) (xs : List PyData) : Prop := ∃ s, r[i]? = some s ∧ ownL s = some xs
def Ow (g : Gb) (σ : St) (r : List Sl) : Av := fun a => GbA g a ∨ ∃ i xs, OwnAt r i xs ∧ σ[i]? = some (some (V.ref a))

structure ER (K : PySem.W.Frag) (g : Gb) (S : Av) (σ : St) (H : Hp) (z : Z) : Prop where
  len : z.r.length = σ.length
  trk : ∀ a, S a → H a ≠ none
  bag : BagOk g H z.b
  val : ∀ (i : Nat) (d : PyData), z.r[i]? = some (Sl.val d) → ∃ v, σ[i]? = some (some v) ∧ Rp K (fun a => S a ∨ Ow g σ z.r a) H d v
  own : ∀ (i : Nat) (xs : List PyData), OwnAt z.r i xs → ∃ (a : Addr) (vs : List V), σ[i]? = some (some (V.ref a)) ∧ ¬ S a ∧ ¬ GbA g a ∧ H a = some (.lst vs) ∧ RpA K (fun a => S a ∨ Ow g σ z.r a) H xs vs
  dis : ∀ (i j : Nat) (xs ys : List PyData) (a : Addr), OwnAt z.r i xs → OwnAt z.r j ys → σ[i]? = some (some (V.ref a)) → σ[j]? = some (some (V.ref a)) → i = j
  bgs : ∀ (i : Nat), z.r[i]? = some Sl.bag → ∃ (b c : Addr), g = some (b, c) ∧ σ[i]? = some (some (V.ref b))

section
variable {K : PySem.W.Frag} {g : Gb} {S T : Av} {σ : St} {H H' : Hp} {z z' : Z}
theorem ER.owTrk (e : ER K g S σ H z) : ∀ a, Ow g σ z.r a → ∃ vs, H a = some (.lst vs) := fun a h => by
  rcases h with ⟨b, c, hg, h⟩ | ⟨i, xs, o, hs⟩
  · obtain ⟨_, h1, h2⟩ := e.bag b c hg
    rcases h with rfl | rfl
    · exact ⟨_, h1⟩
    · exact ⟨_, h2⟩
  · obtain ⟨a', vs, h1, _, _, h2, _⟩ := e.own i xs o
    rw [hs] at h1; cases h1
    exact ⟨vs, h2⟩
theorem ER.avTrk (e : ER K g S σ H z) : ∀ a, (S a ∨ Ow g σ z.r a) → H a ≠ none := fun a h => by
  rcases h with h | h
  · exact e.trk a h
  · obtain ⟨vs, h⟩ := e.owTrk a h
    rw [h]; exact fun z => nomatch z
/-- the heap has grown; another set to be avoided -/
theorem ER.mv (e : ER K g S σ H z) (hT : ∀ a, T a → H' a ≠ none) (h1 : ∀ a, T a → S a ∨ H a = none) (x : Ext H H') : ER K g T σ H' z where
  len := e.len
  trk := hT
  bag := fun b c hg => by
    obtain ⟨n, p, q⟩ := e.bag b c hg
    exact ⟨n, x _ _ p, x _ _ q⟩
  val := fun i d hi => by
    obtain ⟨v, hv, r⟩ := e.val i d hi
    exact ⟨v, hv, r.mv (fun a q => q.elim (fun t => (h1 a t).elim (fun s => .inl (.inl s)) .inr) fun o => .inl (.inr o)) x.kp⟩
  own := fun i xs hi => by
    obtain ⟨a, vs, hs, n1, n2, hl, r⟩ := e.own i xs hi
    refine ⟨a, vs, hs, fun t => (h1 a t).elim n1 fun z => ?_, n2, x _ _ hl, r.mv (fun a q => q.elim (fun t => (h1 a t).elim (fun s => .inl (.inl s)) .inr) fun o => .inl (.inr o)) x.kp⟩
    rw [hl] at z; cases z
  dis := e.dis
  bgs := e.bgs
theorem ER.sub (e : ER K g S σ H z) (h1 : ∀ a, T a → S a) : ER K g T σ H z := e.mv (fun a t => e.trk a (h1 a t)) (fun a t => .inl (h1 a t)) Ext.refl
end

/-! ### the values of expressions -/
def tmp : U → V → Av
  | .nw _, .ref a => fun b => b = a
  | _, _ => fun _ => False
def RU (K : PySem.W.Frag) (g : Gb) (T : Av) (σ : St) (H : Hp) (z : Z) : U → V → Prop
  | .d x, v => Rp K (fun a => T a ∨ Ow g σ z.r a) H x v
  | .nw xs, v => ∃ a vs, v = .ref a ∧ T a ∧ ¬ GbA g a ∧ H a = some (.lst vs) ∧ RpA K (fun a => T a ∨ Ow g σ z.r a) H xs vs
  | .loc i, v => σ[i]? = some (some v)
  | .bag, v => ∃ b c, g = some (b, c) ∧ v = .ref b
/-- the lists that are walked stay as they are -/
def Lk (r r' : List Sl) : Prop := ∀ (i : Nat) (xs : List PyData), r[i]? = some (Sl.lck xs) → r'[i]? = some (Sl.lck xs)
theorem Lk.refl {r : List Sl} : Lk r r := fun _ _ h => h
theorem Lk.trans {r r1 r2 : List Sl} (a : Lk r r1) (b : Lk r1 r2) : Lk r r2 := fun i xs h => b i xs (a i xs h)
/-- what holds behind an expression -/
structure Post (K : PySem.W.Frag) (g : Gb) (S : Av) (σ : St) (H : Hp) (z : Z) (u : U) (z' : Z) (v : V) (H' : Hp) : Prop where
  kp : Kp (Ow g σ z.r) H H'
  ow : ∀ a, Ow g σ z'.r a → Ow g σ z.r a
  er : ER K g (fun a => S a ∨ tmp u v a) σ H' z'
  ru : RU K g (fun a => S a ∨ tmp u v a) σ H' z' u v
  fr : ∀ a, tmp u v a → H a = none
  lk : Lk z.r z'.r
def tmps : List U → List V → Av
  | u :: us, v :: vs => fun a => tmp u v a ∨ tmps us vs a
  | _, _ => fun _ => False
def RUL (K : PySem.W.Frag) (g : Gb) (T : Av) (σ : St) (H : Hp) (z : Z) : List U → List V → Prop
  | [], vs => vs = []
  | u :: us, vs => ∃ v r, vs = v :: r ∧ RU K g T σ H z u v ∧ RUL K g T σ H z us r ∧ ∀ a, tmp u v a → ¬ tmps us r a
structure PostL (K : PySem.W.Frag) (g : Gb) (S : Av) (σ : St) (H : Hp) (z : Z) (us : List U) (z' : Z) (vs : List V) (H' : Hp) : Prop where
  kp : Kp (Ow g σ z.r) H H'
  ow : ∀ a, Ow g σ z'.r a → Ow g σ z.r a
  er : ER K g (fun a => S a ∨ tmps us vs a) σ H' z'
  ru : RUL K g (fun a => S a ∨ tmps us vs a) σ H' z' us vs
  fr : ∀ a, tmps us vs a → H a = none
  lk : Lk z.r z'.r

section
variable {K : PySem.W.Frag} {g : Gb} {S T T' : Av} {σ : St} {H H' H'' : Hp} {z z' z'' : Z} {u : U} {v : V} {us : List U} {vs : List V}
/-- a value found earlier, behind a further step -/
theorem RU.mv (r : RU K g T σ H z u v) (e : ER K g T σ H z) (k : Kp (Ow g σ z.r) H H') (o : ∀ a, Ow g σ z'.r a → Ow g σ z.r a) (h1 : ∀ a, T a → T' a) (h2 : ∀ a, T' a → T a ∨ H a = none) : RU K g T' σ H' z' u v := by
  have k' : Kp (fun a => T a ∨ Ow g σ z.r a) H H' := k.mono fun a q => .inr q
  have hs : ∀ a, (T' a ∨ Ow g σ z'.r a) → (T a ∨ Ow g σ z.r a) ∨ H a = none := fun a q => q.elim (fun t => (h2 a t).elim (fun s => .inl (.inl s)) .inr) fun q => .inl (.inr (o a q))
  cases u with
  | d x => exact Rp.mv hs k' (show Rp K _ H x v from r)
  | nw xs =>
    obtain ⟨a, vs, e1, ta, ng, hl, q⟩ := r
    refine ⟨a, vs, e1, h1 a ta, ng, k.at' a _ hl fun ho => ?_, q.mv hs k'⟩
    rcases ho with hg | ⟨i, ys, oi, hs⟩
    · exact absurd hg ng
    · obtain ⟨a', _, h3, h4, _⟩ := e.own i ys oi
      rw [hs] at h3; cases h3
      exact absurd ta h4
  | loc i => exact r
  | bag => exact r
theorem RUL.mv : ∀ {us : List U} {vs : List V}, RUL K g T σ H z us vs → ER K g T σ H z → Kp (Ow g σ z.r) H H' → (∀ a, Ow g σ z'.r a → Ow g σ z.r a) → (∀ a, T a → T' a) → (∀ a, T' a → T a ∨ H a = none) → RUL K g T' σ H' z' us vs
  | [], _, r, _, _, _, _, _ => r
  | u :: us, vs, r, e, k, o, h1, h2 => by
    obtain ⟨v, r', rfl, q1, q2, q3⟩ := r
    exact ⟨v, r', rfl, q1.mv e k o h1 h2, RUL.mv q2 e k o h1 h2, q3⟩
theorem PostL.nil (e : ER K g S σ H z) : PostL K g S σ H z [] z [] H where
  kp := Kp.refl
  ow := fun _ h => h
  er := e.sub fun a h => h.elim id fun z => z.elim
  ru := rfl
  fr := fun a h => h.elim
  lk := Lk.refl
/-- one more expression, the later ones behind it -/
theorem PostL.cons (p : Post K g S σ H z u z' v H') (q : PostL K g (fun a => S a ∨ tmp u v a) σ H' z' us z'' vs H'') : PostL K g S σ H z (u :: us) z'' (v :: vs) H'' where
  kp := p.kp.trans q.kp p.ow
  ow := fun a h => p.ow a (q.ow a h)
  er := q.er.sub fun a h => h.elim (fun s => .inl (.inl s)) fun t => t.elim (fun t => .inl (.inr t)) .inr
  ru := by
    refine ⟨v, vs, rfl, ?_, ?_, fun a t1 t2 => ?_⟩
    · refine p.ru.mv p.er q.kp q.ow (fun a h => h.elim .inl fun t => .inr (.inl t)) fun a h => ?_
      rcases h with h | h | h
      · exact .inl (.inl h)
      · exact .inl (.inr h)
      · exact .inr (q.fr a h)
    · exact q.ru.mv q.er Kp.refl (fun _ h => h) (fun a h => h.elim (fun h => h.elim .inl fun t => .inr (.inl t)) fun t => .inr (.inr t)) fun a h => .inl (by
        rcases h with h | h | h
        · exact .inl (.inl h)
        · exact .inl (.inr h)
        · exact .inr h)
    · have e1 : H' a = none := q.fr a t2
      exact absurd e1 (p.er.trk a (.inr t1))
  fr := fun a h => by
    rcases h with h | h
    · exact p.fr a h
    · have e1 := q.fr a h
      cases e : H a with
      | none => rfl
      | some o => exact absurd e1 (p.kp.tr a (by rw [e]; exact fun z => nomatch z))
  lk := p.lk.trans q.lk
end
end Mz

set_option Elab.async false
set_option linter.all false
set_option maxRecDepth 100000
set_option autoImplicit false
/-! Mz2: what an expression gives, as a reading of the layer; operators. -/
namespace Mz
open PySem PySem.Spec L2
open PyProof.Rows hiding St

/-- an argument of a def; a result -/
inductive A where
  | d (x : PyData) | bag
inductive R where
  | d (x : PyData) | nw (xs : List PyData)
def R.u : R → U
  | .d x => .d x
  | .nw xs => .nw xs
abbrev Cl := Str → List A → Bg → Option (R × Bg)

def TEf (K : PySem.W.Frag) (g : Gb) (f : Z → Option (U × Z)) : TE := fun σ H Q => ∃ S z u z', ER K g S σ H z ∧ f z = some (u, z') ∧ ∀ v H', Post K g S σ H z u z' v H' → Q v H'
def TAf (K : PySem.W.Frag) (g : Gb) (f : Z → Option (List U × Z)) : TA := fun σ H Q => ∃ S z us z', ER K g S σ H z ∧ f z = some (us, z') ∧ ∀ vs H', PostL K g S σ H z us z' vs H' → Q vs H'
def TTf (K : PySem.W.Frag) (g : Gb) (f : Z → Option (U × Z)) : TT := fun σ H Q => ∃ S z b z', ER K g S σ H z ∧ f z = some (.d (.bool b), z') ∧
  ∀ H', Post K g S σ H z (.d (.bool b)) z' (.bl b) H' → Q b H'

theorem peI {X : Cx} {e : Expr} {t t' : TE} (h : PE X e t) (i : ∀ σ H Q, t' σ H Q → t σ H Q) : PE X e t' := ⟨fun pins s σ H Q I q => h.run pins s σ H Q I (i σ H Q q)⟩
theorem ptI {X : Cx} {e : Expr} {t t' : TT} (h : PT X e t) (i : ∀ σ H Q, t' σ H Q → t σ H Q) : PT X e t' := ⟨fun pins s σ H Q I q => h.run pins s σ H Q I (i σ H Q q)⟩
theorem paI {X : Cx} {e : List Expr} {t t' : TA} (h : PA X e t) (i : ∀ σ H Q, t' σ H Q → t σ H Q) : PA X e t' := ⟨fun pos pins s σ H Q I q => h.run pos pins s σ H Q I (i σ H Q q)⟩
theorem psI {X : Cx} {e : Stmt} {t t' : TS} (h : PS X e t) (i : ∀ D σ H, t' D σ H → t D σ H) : PS X e t' := ⟨fun pins s σ H D I q => h.run pins s σ H D I (i D σ H q)⟩
theorem pssI {X : Cx} {e : List Stmt} {t t' : TS} (h : PSs X e t) (i : ∀ D σ H, t' D σ H → t D σ H) : PSs X e t' := ⟨fun pins s σ H D I q => h.run pins s σ H D I (i D σ H q)⟩

/-! ### reading a value as data -/
def rdS : Option Sl → Option PyData
  | some (.val x) => some x
  | some (.own xs) => some (.list xs)
  | some (.lck xs) => some (.list xs)
  | _ => none
def rd (z : Z) : U → Option PyData
  | .d x => some x
  | .nw xs => some (.list xs)
  | .loc i => rdS z.r[i]?
  | .bag => none
/-- the value v reads as d; only what is within d avoids S -/
def RdP (K : PySem.W.Frag) (S : Av) (H : Hp) (d : PyData) (v : V) : Prop :=
  match d with
  | .list ds => ∃ a vs, v = .ref a ∧ H a = some (.lst vs) ∧ RpA K S H ds vs
  | d => Rp K S H d v
section
variable {K : PySem.W.Frag} {g : Gb} {S T : Av} {σ : St} {H H' H'' : Hp} {z z' z'' : Z} {u : U} {v : V} {us : List U} {vs : List V} {d : PyData}
theorem Rp.rd (h : Rp K S H d v) : RdP K S H d v := by
  cases d with
  | list ds =>
    rw [Rp] at h
    obtain ⟨a, xs, e, _, q1, q2⟩ := h
    exact ⟨a, xs, e, q1, q2⟩
  | _ => exact h
theorem RdP.sub (h : RdP K T H d v) (h1 : ∀ a, S a → T a) : RdP K S H d v := by
  cases d with
  | list ds =>
    obtain ⟨a, xs, e, q1, q2⟩ := h
    exact ⟨a, xs, e, q1, q2.sub h1⟩
  | _ => exact Rp.sub (show Rp K T H _ v from h) h1
theorem RU.read (r : RU K g T σ H z u v) (e : ER K g T σ H z) (h : rd z u = some d) : RdP K (fun a => T a ∨ Ow g σ z.r a) H d v := by
  cases u with
  | d x => cases h; exact Rp.rd r
  | nw xs =>
    cases h
    obtain ⟨a, vs, e1, _, _, q1, q2⟩ := r
    exact ⟨a, vs, e1, q1, q2⟩
  | loc i =>
    have hs : σ[i]? = some (some v) := r
    have h' : rdS z.r[i]? = some d := h
    have own : ∀ s xs, z.r[i]? = some s → ownL s = some xs → d = .list xs → RdP K (fun a => T a ∨ Ow g σ z.r a) H d v := fun s xs e1 e2 e3 => by
      obtain ⟨a, ws, q1, _, _, q2, q3⟩ := e.own i xs ⟨s, e1, e2⟩
      rw [hs] at q1; cases q1
      rw [e3]
      exact ⟨a, ws, rfl, q2, q3⟩
    cases q : z.r[i]? with
    | none => rw [q] at h'; cases h'
    | some s =>
      rw [q] at h'
      cases s with
      | val x =>
        cases h'
        obtain ⟨w, e1, e2⟩ := e.val i _ q
        rw [hs] at e1; cases e1
        exact e2.rd
      | own xs => cases h'; exact own _ xs q rfl rfl
      | lck xs => cases h'; exact own _ xs q rfl rfl
      | no => cases h'
      | bag => cases h'
  | bag => cases h
def RdPs (K : PySem.W.Frag) (S : Av) (H : Hp) : List PyData → List V → Prop
  | [], vs => vs = []
  | d :: ds, vs => ∃ v r, vs = v :: r ∧ RdP K S H d v ∧ RdPs K S H ds r
def rds (z : Z) : List U → Option (List PyData)
  | [] => some []
  | u :: us => match rd z u, rds z us with
    | some d, some ds => some (d :: ds)
    | _, _ => none
theorem RUL.read : ∀ {us : List U} {vs : List V} {ds : List PyData}, RUL K g T σ H z us vs → ER K g T σ H z → rds z us = some ds → RdPs K (fun a => T a ∨ Ow g σ z.r a) H ds vs
  | [], _, _, r, _, h => by cases h; exact r
  | u :: us, _, ds, r, e, h => by
    obtain ⟨v, r', rfl, q1, q2, _⟩ := r
    unfold rds at h
    split at h
    · rename_i d ds' e1 e2
      cases h
      exact ⟨v, r', rfl, q1.read e e1, RUL.read q2 e e2⟩
    · cases h
theorem RdPs.sub : ∀ {ds : List PyData} {vs : List V}, RdPs K T H ds vs → (∀ a, S a → T a) → RdPs K S H ds vs
  | [], _, h, _ => h
  | d :: ds, _, h, h1 => by
    obtain ⟨v, r, e, q1, q2⟩ := h
    exact ⟨v, r, e, q1.sub h1, RdPs.sub q2 h1⟩

/-! ### results -/
def RW (K : PySem.W.Frag) (S : Av) (H H' : Hp) : R → V → Prop
  | .d x, v => Rp K S H' x v
  | .nw xs, v => ∃ a vs, v = .ref a ∧ H a = none ∧ H' a = some (.lst vs) ∧ RpA K (fun b => S b ∨ b = a) H' xs vs
theorem Post.fin {w : R} (p : PostL K g S σ H z us z' vs H') (x : Ext H' H'') (r : RW K (fun a => S a ∨ Ow g σ z'.r a) H' H'' w v) : Post K g S σ H z w.u z' v H'' := by
  have trk : ∀ {a}, H' a = none → H a = none := fun {a} h => by
    cases e : H a with
    | none => rfl
    | some u => exact absurd h (p.kp.tr a (trk_of e))
  have hT : ∀ a, tmp w.u v a → H' a = none ∧ H'' a ≠ none := fun a h => by
    cases w with
    | d x => exact h.elim
    | nw xs =>
      obtain ⟨b, ws, rfl, q1, q2, _⟩ := r
      have e : a = b := h
      subst e
      exact ⟨q1, trk_of q2⟩
  have er : ER K g (fun a => S a ∨ tmp w.u v a) σ H'' z' := by
    refine p.er.mv (fun a h => ?_) (fun a h => ?_) x
    · rcases h with h | h
      · exact x.kp (O := fun _ => False) |>.tr a (p.er.trk a (.inl h))
      · exact (hT a h).2
    · rcases h with h | h
      · exact .inl (.inl h)
      · exact .inr (hT a h).1
  refine ⟨p.kp.trans (x.kp (O := Ow g σ z'.r)) p.ow, p.ow, er, ?_, fun a h => trk (hT a h).1, p.lk⟩
  cases w with
  | d x => exact Rp.sub (show Rp K _ H'' x v from r) fun a h => h.elim (fun h => h.elim .inl fun z => z.elim) .inr
  | nw xs =>
    obtain ⟨a, ws, rfl, q1, q2, q3⟩ := r
    refine ⟨a, ws, rfl, .inr rfl, fun hg => ?_, q2, ?_⟩
    · obtain ⟨b, c, e1, e2⟩ := hg
      obtain ⟨_, h1, h2⟩ := p.er.bag b c e1
      rcases e2 with rfl | rfl
      · rw [h1] at q1; cases q1
      · rw [h2] at q1; cases q1
    · exact q3.sub fun b h => h.elim (fun h => h.elim (fun h => .inl (.inl h)) fun h => .inr h) fun h => .inl (.inr h)
end

/-! ### operators by data -/
def tracked (S : Av) (H : Hp) : Prop := ∀ a, S a → H a ≠ none
def Rule2 (K : PySem.W.Frag) (r : R2) (sem : PyData → PyData → Option R) : Prop :=
  ∀ (S : Av) (H : Hp) (d1 d2 : PyData) (v1 v2 : V) (w : R) (Q : VK), tracked S H → RdP K S H d1 v1 → RdP K S H d2 v2 → sem d1 d2 = some w → (∀ v H', Ext H H' → RW K S H H' w v → Q v H') → r v1 v2 H Q
def Rule1 (K : PySem.W.Frag) (r : V → Hp → VK → Prop) (sem : PyData → Option R) : Prop :=
  ∀ (S : Av) (H : Hp) (d1 : PyData) (v1 : V) (w : R) (Q : VK), tracked S H → RdP K S H d1 v1 → sem d1 = some w → (∀ v H', Ext H H' → RW K S H H' w v → Q v H') → r v1 H Q
def RuleN (K : PySem.W.Frag) (r : List V → Hp → VK → Prop) (sem : List PyData → Option R) : Prop :=
  ∀ (S : Av) (H : Hp) (ds : List PyData) (vs : List V) (w : R) (Q : VK), tracked S H → RdPs K S H ds vs → sem ds = some w → (∀ v H', Ext H H' → RW K S H H' w v → Q v H') → r vs H Q
section
variable {K : PySem.W.Frag} {S : Av} {H : Hp} {ds es : List PyData} {vs ws : List V} {p : Addr}
theorem notS (h : tracked S H) (hp : H p = none) : ¬ S p := fun z => h p z hp
theorem rw_tup (hp : H p = none) (q : RpA K S H ds vs) : RW K S H (upd H p (.tup vs)) (.d (.tuple ds)) (.ref p) := by
  show Rp K S _ (.tuple ds) (.ref p)
  rw [Rp]
  exact ⟨p, vs, rfl, .inl (.inl upd_same), q.ext (Ext.upd hp)⟩
theorem rw_lst (hp : H p = none) (q : RpA K S H ds vs) : RW K S H (upd H p (.lst vs)) (.nw ds) (.ref p) :=
  ⟨p, vs, rfl, hp, upd_same, q.mv (fun a h => h.elim .inl fun e => .inr (by rw [e]; exact hp)) (Ext.upd hp).kp⟩
theorem rw_int (i : Int) : RW K S H H (.d (.int i)) (.int i) := by show Rp K S H (.int i) _; rw [Rp]
theorem rw_bl (i : Bool) : RW K S H H (.d (.bool i)) (.bl i) := by show Rp K S H (.bool i) _; rw [Rp]
theorem rw_str (i : Str) : RW K S H H (.d (.str i)) (.str i) := by show Rp K S H (.str i) _; rw [Rp]
theorem rw_non : RW K S H H (.d .none) .non := by show Rp K S H .none _; rw [Rp]
theorem rdp_int {i : Int} {v : V} (h : RdP K S H (.int i) v) : v = .int i := by have h : Rp K S H _ v := h; rw [Rp] at h; exact h
theorem rdp_bl {i : Bool} {v : V} (h : RdP K S H (.bool i) v) : v = .bl i := by have h : Rp K S H _ v := h; rw [Rp] at h; exact h
theorem rdp_str {i : Str} {v : V} (h : RdP K S H (.str i) v) : v = .str i := by have h : Rp K S H _ v := h; rw [Rp] at h; exact h
theorem rdp_non {v : V} (h : RdP K S H .none v) : v = .non := by have h : Rp K S H _ v := h; rw [Rp] at h; exact h
theorem rdp_tup {v : V} (h : RdP K S H (.tuple ds) v) : ∃ a xs, v = .ref a ∧ SqT K H a xs ∧ RpA K S H ds xs := by have h : Rp K S H _ v := h; rw [Rp] at h; exact h
theorem rdp_lst {v : V} (h : RdP K S H (.list ds) v) : ∃ a xs, v = .ref a ∧ H a = some (.lst xs) ∧ RpA K S H ds xs := h
end

mutual
/-- data without dicts, for the layer's rules about data -/
theorem Rp.dp {K : PySem.W.Frag} {S : Av} {H : Hp} : ∀ {d : PyData} {v : V}, d.canLay0 = true → Rp K S H d v → Dp K H v d
  | .none, _, _, h => by rw [Rp] at h; subst h; exact .non
  | .bool _, _, _, h => by rw [Rp] at h; subst h; exact .bl _
  | .int _, _, _, h => by rw [Rp] at h; subst h; exact .int _
  | .str _, _, _, h => by rw [Rp] at h; subst h; exact .str _
  | .list ds, v, p, h => by
    rw [Rp] at h
    rw [PyData.canLay0] at p
    obtain ⟨a, xs, rfl, _, r, q⟩ := h
    exact .lst (.inl (.inl r)) (RpA.dp p q)
  | .tuple ds, v, p, h => by
    rw [Rp] at h
    rw [PyData.canLay0] at p
    obtain ⟨a, xs, rfl, r, q⟩ := h
    exact .tup r (RpA.dp p q)
  | .dict kvs, v, p, h => by simp [PyData.canLay0] at p
theorem RpA.dp {K : PySem.W.Frag} {S : Av} {H : Hp} : ∀ {ds : List PyData} {vs : List V}, PyData.canLayAll0 ds = true → RpA K S H ds vs → DpAll K H vs ds
  | [], _, _, h => by rw [RpA] at h; subst h; exact .nil
  | d :: ds, vs, p, h => by
    rw [RpA] at h
    rw [PyData.canLayAll0, Bool.and_eq_true] at p
    obtain ⟨x, r, rfl, q1, q2⟩ := h
    exact .cons (Rp.dp p.1 q1) (RpA.dp p.2 q2)
end
theorem RdP.dp {K : PySem.W.Frag} {S : Av} {H : Hp} {d : PyData} {v : V} (p : d.canLay0 = true) (h : RdP K S H d v) : Dp K H v d := by
  cases d with
  | list ds =>
    obtain ⟨a, xs, rfl, r, q⟩ := h
    rw [PyData.canLay0] at p
    exact .lst (.inl (.inl r)) (q.dp p)
  | _ => exact Rp.dp (S := S) p h

def ifc {α : Type} (c : Bool) (x : α) : Option α := if c then some x else none
theorem ifc_eq {α : Type} {c : Bool} {x y : α} (h : ifc c x = some y) : c = true ∧ x = y := by
  unfold ifc at h
  split at h
  · cases h; exact ⟨by assumption, rfl⟩
  · cases h
@[simp] theorem ifc_true {α : Type} {x : α} : ifc true x = some x := rfl

def addS : PyData → PyData → Option R
  | .int i, .int j => some (.d (.int (i + j)))
  | .list a, .list b => ifc (decide (a.length + b.length ≤ sizeLine)) (.nw (a ++ b))
  | .tuple a, .tuple b => ifc (decide (a.length + b.length ≤ sizeLine)) (.d (.tuple (a ++ b)))
  | .str a, .str b => ifc (decide (a.length + b.length ≤ sizeLine)) (.d (.str (a ++ b)))
  | _, _ => none
def subS : PyData → PyData → Option R
  | .int i, .int j => some (.d (.int (i - j)))
  | _, _ => none
def mulS : PyData → PyData → Option R
  | .int i, .int j => ifc (decide (i.natAbs.log2 + j.natAbs.log2 < 1000000)) (.d (.int (i * j)))
  | .list a, .int k => ifc (decide (-(2 ^ 63) ≤ k) && decide (k < 2 ^ 63) && decide (a.length * k.toNat ≤ sizeLine)) (.nw (List.replicate k.toNat a).flatten)
  | _, _ => none
def modS : PyData → PyData → Option R
  | .int i, .int j => ifc (decide (0 < j)) (.d (.int (i % j)))
  | _, _ => none
def fdivS : PyData → PyData → Option R
  | .int i, .int j => ifc (decide (0 < j) && decide (j.natAbs.log2 < 9000)) (.d (.int (i / j)))
  | _, _ => none
def powS : PyData → PyData → Option R
  | .int i, .int j => ifc (decide (0 ≤ j) && decide (j ≤ 1000000) && decide (i.natAbs < 2 ^ 64)) (.d (.int (i ^ j.toNat)))
  | _, _ => none
def binS : Operator → PyData → PyData → Option R
  | .Add => addS
  | .Sub => subS
  | .Mult => mulS
  | .Mod => modS
  | .FloorDiv => fdivS
  | .Pow => powS
  | _ => fun _ _ => none

section
variable {X : Cx}
def rAddA (K : PySem.W.Frag) : R2 := fun x y H Q => rI0 (fun i j => .int (i + j)) x y H Q ∨ (rCat x y H Q ∨ (rCatA K x y H Q ∨ ∃ i j, x = .str i ∧ y = .str j ∧ i.length + j.length ≤ sizeLine ∧ Q (.str (i ++ j)) H))
theorem op_addA : OpR X (binaryOp .Add) (rAddA X.K) := op_add.or (op_cat.or (op_catA.or op_add_str))
theorem rule_add {K : PySem.W.Frag} : Rule2 K (rAddA K) addS := by
  intro S H d1 d2 v1 v2 w Q tr h1 h2 e q
  unfold addS at e
  split at e
  · rw [rdp_int h1, rdp_int h2]
    cases e
    exact .inl ⟨_, _, rfl, rfl, q _ _ Ext.refl (rw_int _)⟩
  · obtain ⟨c, rfl⟩ := ifc_eq e
    obtain ⟨a, xs, rfl, r1, q1⟩ := rdp_lst h1
    obtain ⟨b, ys, rfl, r2, q2⟩ := rdp_lst h2
    refine .inr (.inl ⟨_, _, _, _, rfl, rfl, r1, r2, ?_, fun p hp => q _ _ (Ext.upd hp) (rw_lst hp (q1.append q2))⟩)
    rw [q1.length, q2.length]
    exact of_decide_eq_true c
  · obtain ⟨c, rfl⟩ := ifc_eq e
    obtain ⟨a, xs, rfl, r1, q1⟩ := rdp_tup h1
    obtain ⟨b, ys, rfl, r2, q2⟩ := rdp_tup h2
    have hz : xs.length + ys.length ≤ sizeLine := by
      rw [q1.length, q2.length]
      exact of_decide_eq_true c
    refine .inr (.inr (.inl ⟨_, _, _, _, rfl, rfl, r1, r2, hz, fun ex => ?_, fun _ ey => ?_, fun _ _ p hp => q _ _ (Ext.upd hp) (rw_tup hp (q1.append q2))⟩))
    · refine q _ _ Ext.refl ?_
      have e0 := q1.length
      rw [ex] at e0
      rename_i A B
      have e1 : A = [] := by cases A with | nil => rfl | cons _ _ => simp at e0
      subst e1
      show Rp K S H (.tuple ([] ++ B)) _
      rw [Rp]
      exact ⟨b, ys, rfl, r2, q2⟩
    · refine q _ _ Ext.refl ?_
      have e0 := q2.length
      rw [ey] at e0
      rename_i A B _
      have e1 : B = [] := by cases B with | nil => rfl | cons _ _ => simp at e0
      subst e1
      show Rp K S H (.tuple (A ++ [])) _
      rw [Rp, List.append_nil]
      exact ⟨a, xs, rfl, r1, q1⟩
  · obtain ⟨c, rfl⟩ := ifc_eq e
    rw [rdp_str h1, rdp_str h2]
    exact .inr (.inr (.inr ⟨_, _, rfl, rfl, of_decide_eq_true c, q _ _ Ext.refl (rw_str _)⟩))
  · cases e
theorem rule_sub {K : PySem.W.Frag} : Rule2 K (rI0 (fun i j => .int (i - j))) subS := by
  intro S H d1 d2 v1 v2 w Q tr h1 h2 e q
  unfold subS at e
  split at e
  · rw [rdp_int h1, rdp_int h2]
    cases e
    exact ⟨_, _, rfl, rfl, q _ _ Ext.refl (rw_int _)⟩
  · cases e
theorem RpA.rep {K : PySem.W.Frag} {S : Av} {H : Hp} {ds : List PyData} {vs : List V} (h : RpA K S H ds vs) : ∀ k : Nat, RpA K S H (List.replicate k ds).flatten (List.replicate k vs).flatten
  | 0 => RpA.nil
  | k + 1 => by
    rw [List.replicate_succ, List.replicate_succ, List.flatten_cons, List.flatten_cons]
    exact h.append (RpA.rep h k)
def rMulA : R2 := fun x y H Q => rI CMulW (fun i j => .int (i * j)) x y H Q ∨ rRep x y H Q
theorem op_mulA : OpR X (binaryOp .Mult) rMulA := op_mulW.or op_rep
theorem rule_mul {K : PySem.W.Frag} : Rule2 K rMulA mulS := by
  intro S H d1 d2 v1 v2 w Q tr h1 h2 e q
  unfold mulS at e
  split at e
  · rw [rdp_int h1, rdp_int h2]
    obtain ⟨c, rfl⟩ := ifc_eq e
    have c' := of_decide_eq_true c
    exact .inl ⟨_, _, rfl, rfl, c', q _ _ Ext.refl (rw_int _)⟩
  · obtain ⟨c, rfl⟩ := ifc_eq e
    rw [Bool.and_eq_true, Bool.and_eq_true] at c
    obtain ⟨⟨c1, c2⟩, c3⟩ := c
    obtain ⟨a, xs, rfl, r1, q1⟩ := rdp_lst h1
    rw [rdp_int h2]
    refine .inr ⟨_, _, _, rfl, rfl, r1, of_decide_eq_true c1, of_decide_eq_true c2, ?_, fun p hp => q _ _ (Ext.upd hp) (rw_lst hp (q1.rep _))⟩
    rw [q1.length]
    exact of_decide_eq_true c3
  · cases e
theorem rule_mod {K : PySem.W.Frag} : Rule2 K (rI (fun _ j => 0 < j) (fun i j => .int (i % j))) modS := by
  intro S H d1 d2 v1 v2 w Q tr h1 h2 e q
  unfold modS at e
  split at e
  · rw [rdp_int h1, rdp_int h2]
    obtain ⟨c, rfl⟩ := ifc_eq e
    exact ⟨_, _, rfl, rfl, of_decide_eq_true c, q _ _ Ext.refl (rw_int _)⟩
  · cases e
theorem rule_fdiv {K : PySem.W.Frag} : Rule2 K (rI CDivW (fun i j => .int (i / j))) fdivS := by
  intro S H d1 d2 v1 v2 w Q tr h1 h2 e q
  unfold fdivS at e
  split at e
  · rw [rdp_int h1, rdp_int h2]
    obtain ⟨c, rfl⟩ := ifc_eq e
    rw [Bool.and_eq_true] at c
    exact ⟨_, _, rfl, rfl, ⟨of_decide_eq_true c.1, of_decide_eq_true c.2⟩, q _ _ Ext.refl (rw_int _)⟩
  · cases e
theorem rule_pow {K : PySem.W.Frag} : Rule2 K (rI CPow (fun i j => .int (i ^ j.toNat))) powS := by
  intro S H d1 d2 v1 v2 w Q tr h1 h2 e q
  unfold powS at e
  split at e
  · rw [rdp_int h1, rdp_int h2]
    obtain ⟨c, rfl⟩ := ifc_eq e
    rw [Bool.and_eq_true, Bool.and_eq_true] at c
    exact ⟨_, _, rfl, rfl, ⟨of_decide_eq_true c.1.1, of_decide_eq_true c.1.2, of_decide_eq_true c.2⟩, q _ _ Ext.refl (rw_int _)⟩
  · cases e
theorem op_any {op : Operator} : ∃ r, OpR X (binaryOp op) r ∧ Rule2 X.K r (binS op) := by
  cases op
  case Add => exact ⟨_, op_addA, rule_add⟩
  case Sub => exact ⟨_, op_sub, rule_sub⟩
  case Mult => exact ⟨_, op_mulA, rule_mul⟩
  case Mod => exact ⟨_, op_mod, rule_mod⟩
  case FloorDiv => exact ⟨_, op_fdivW, rule_fdiv⟩
  case Pow => exact ⟨_, op_pow, rule_pow⟩
  all_goals exact ⟨fun _ _ _ _ => False, fun _ _ _ _ _ _ _ _ _ _ _ _ h => h.elim, fun _ _ _ _ _ _ _ _ _ _ _ e _ => nomatch e⟩

/-! ### comparisons by data -/
def eqS : PyData → PyData → Option Bool
  | .str x, .str y => some (decide (x = y))
  | .tuple xs, .tuple [] => some xs.isEmpty
  | a, b => ifc (SeqAt.shaped a && SeqAt.shaped b) (PyData.eqv a b)
def ltS (f : Int → Int → Bool) : PyData → PyData → Option Bool
  | .int i, .int j => some (f i j)
  | _, _ => none
def flatD : PyData → Bool
  | .none => true
  | .bool _ => true
  | .int _ => true
  | .str _ => true
  | _ => false
def inS : PyData → PyData → Option Bool
  | x, .list ds => ifc (SeqAt.shaped x && SeqAt.shaped (.list ds)) (ds.any fun z => PyData.eqv z x)
  | x, .tuple ds => ifc (flatD x && ds.all flatD) (ds.any fun z => PyData.eqv z x)
  | _, _ => none
def cmpS : CmpOp → PyData → PyData → Option Bool
  | .Eq, a, b => eqS a b
  | .NotEq, a, b => (eqS a b).map (!·)
  | .Lt, a, b => ltS (fun i j => decide (i < j)) a b
  | .LtE, a, b => ltS (fun i j => decide (i ≤ j)) a b
  | .Gt, a, b => ltS (fun i j => decide (j < i)) a b
  | .GtE, a, b => ltS (fun i j => decide (j ≤ i)) a b
  | .In, a, b => inS a b
  | .NotIn, a, b => (inS a b).map (!·)
  | _, _, _ => none
/-- a tuple beside the empty one, whatever its items are -/
def rNil (K : PySem.W.Frag) (neg : Bool) : R2 := fun x y H Q => ∃ a b xs, x = .ref a ∧ y = .ref b ∧ SqT K H a xs ∧ SqT K H b [] ∧ Q (.bl (if neg then !xs.isEmpty else xs.isEmpty)) H
theorem op_eqNil (hu : X.A.units < cLine) : OpR X (compareOp .Eq) (rNil X.K false) := by
  intro pins s σ H x y v u Q I rx ry h
  obtain ⟨a, b, xs, rfl, rfl, ha, hb, q⟩ := h
  cases rx
  cases ry
  obtain ⟨its, r1, p1, _⟩ := I.tuple ha
  obtain ⟨its2, r2, p2, _⟩ := I.tuple hb
  cases r2
  have hq : (its.toArray.size == (#[] : Array Value).size) = xs.isEmpty := by
    have := r1.length
    cases xs <;> cases its <;> simp_all
  obtain ⟨⟨cls, dd, data, sl⟩, ho, hc, n, hd⟩ := id p1
  obtain ⟨⟨cls2, dd2, data2, sl2⟩, ho2, hc2, n2, hd2⟩ := id p2
  simp only at hc hd hc2 hd2
  subst hc hd hc2 hd2
  refine richCompare_meets_room (op := .Eq) ⟨_, ho, rfl⟩ ⟨_, ho2, rfl⟩ PySem.F.slot_tuple_eq PySem.F.entry_tuple_eq (PySem.F.args_tuple_eq_2 _ _) (SeqAt.tuple_eqAt a b its.toArray #[] n n2 dd dd2 sl sl2 fun _ => true)
    ⟨ho, ho2, fun j h1 h2 => absurd h2 (by simp), ⟨(fun z => nomatch z), ?_⟩⟩ hu
  refine ⟨.bl xs.isEmpty, H, I, ?_, q⟩
  rw [hq]
  simp
  rfl
theorem op_neNil (hu : X.A.units < cLine) : OpR X (compareOp .NotEq) (rNil X.K true) := by
  intro pins s σ H x y v u Q I rx ry h
  obtain ⟨a, b, xs, rfl, rfl, ha, hb, q⟩ := h
  cases rx
  cases ry
  obtain ⟨its, r1, p1, _⟩ := I.tuple ha
  obtain ⟨its2, r2, p2, _⟩ := I.tuple hb
  cases r2
  have hq : (its.toArray.size == (#[] : Array Value).size) = xs.isEmpty := by
    have := r1.length
    cases xs <;> cases its <;> simp_all
  obtain ⟨⟨cls, dd, data, sl⟩, ho, hc, n, hd⟩ := id p1
  obtain ⟨⟨cls2, dd2, data2, sl2⟩, ho2, hc2, n2, hd2⟩ := id p2
  simp only at hc hd hc2 hd2
  subst hc hd hc2 hd2
  refine richCompare_meets_room (op := .NotEq) ⟨_, ho, rfl⟩ ⟨_, ho2, rfl⟩ PySem.F.slot_tuple_ne PySem.F.entry_tuple_ne (PySem.F.args_tuple_ne_2 _ _) (SeqAt.tuple_neAt a b its.toArray #[] n n2 dd dd2 sl sl2 fun _ => true)
    ⟨ho, ho2, fun j h1 h2 => absurd h2 (by simp), ⟨(fun z => nomatch z), ?_⟩⟩ hu
  refine ⟨.bl (!xs.isEmpty), H, I, ?_, q⟩
  rw [hq]
  simp
  rfl
/-- a comparison by data -/
def RuleC (K : PySem.W.Frag) (r : R2) (sem : PyData → PyData → Option Bool) : Prop :=
  ∀ (S : Av) (H : Hp) (d1 d2 : PyData) (v1 v2 : V) (b : Bool) (Q : VK), RdP K S H d1 v1 → RdP K S H d2 v2 → sem d1 d2 = some b → Q (.bl b) H → r v1 v2 H Q
theorem rule_eq {K : PySem.W.Frag} : RuleC K (fun x y H Q => (rEq x y H Q ∨ rEqD K x y H Q) ∨ rNil K false x y H Q) eqS := by
  intro S H d1 d2 v1 v2 b Q h1 h2 e q
  unfold eqS at e
  split at e
  · rw [rdp_str h1, rdp_str h2]
    cases e
    refine .inl (.inl ⟨rfl, ?_⟩)
    rename_i x y
    have : decide (V.str x = V.str y) = decide (x = y) := by rw [decide_eq_decide]; exact ⟨fun h => V.str.inj h, fun h => by rw [h]⟩
    rw [this]; exact q
  · obtain ⟨a, xs, rfl, ra, qa⟩ := rdp_tup h1
    obtain ⟨a2, xs2, rfl, rb, qb⟩ := rdp_tup h2
    rw [RpA] at qb
    subst qb
    cases e
    refine .inr ⟨a, a2, xs, rfl, rfl, ra, rb, ?_⟩
    have hl := qa.length
    rename_i ds
    have : xs.isEmpty = ds.isEmpty := by cases xs <;> cases ds <;> simp_all
    rw [this]; exact q
  · obtain ⟨c, rfl⟩ := ifc_eq e
    rw [Bool.and_eq_true] at c
    exact .inl (.inr ⟨_, _, h1.dp (SeqAt.canLay_of_shaped c.1), h2.dp (SeqAt.canLay_of_shaped c.2), c.1, c.2, q⟩)
theorem rule_ne {K : PySem.W.Frag} : RuleC K (fun x y H Q => (rNe x y H Q ∨ rNeD K x y H Q) ∨ rNil K true x y H Q) (fun a b => (eqS a b).map (!·)) := by
  intro S H d1 d2 v1 v2 b Q h1 h2 e q
  obtain ⟨b', e0, rfl⟩ := Option.map_eq_some_iff.mp e
  clear e
  rename _ = some b' => e
  unfold eqS at e
  split at e
  · rw [rdp_str h1, rdp_str h2]
    cases e
    refine .inl (.inl ⟨rfl, ?_⟩)
    rename_i x y
    have : decide (V.str x = V.str y) = decide (x = y) := by rw [decide_eq_decide]; exact ⟨fun h => V.str.inj h, fun h => by rw [h]⟩
    rw [this]; exact q
  · obtain ⟨a, xs, rfl, ra, qa⟩ := rdp_tup h1
    obtain ⟨a2, xs2, rfl, rb, qb⟩ := rdp_tup h2
    rw [RpA] at qb
    subst qb
    cases e
    refine .inr ⟨a, a2, xs, rfl, rfl, ra, rb, ?_⟩
    have hl := qa.length
    rename_i ds
    have : xs.isEmpty = ds.isEmpty := by cases xs <;> cases ds <;> simp_all
    rw [this]; exact q
  · obtain ⟨c, rfl⟩ := ifc_eq e
    rw [Bool.and_eq_true] at c
    exact .inl (.inr ⟨_, _, h1.dp (SeqAt.canLay_of_shaped c.1), h2.dp (SeqAt.canLay_of_shaped c.2), c.1, c.2, q⟩)
theorem rule_lt {K : PySem.W.Frag} (f : Int → Int → Bool) : RuleC K (rI0 (fun i j => .bl (f i j))) (ltS f) := by
  intro S H d1 d2 v1 v2 b Q h1 h2 e q
  unfold ltS at e
  split at e
  · rw [rdp_int h1, rdp_int h2]
    cases e
    exact ⟨_, _, rfl, rfl, q⟩
  · cases e
theorem flat_v {K : PySem.W.Frag} {S : Av} {H : Hp} {d : PyData} {v : V} (f : flatD d = true) (h : Rp K S H d v) : flatV v = true := by
  cases d <;> first | (rw [Rp] at h; subst h; rfl) | cases f
theorem flat_eqv {K : PySem.W.Frag} {S S' : Av} {H : Hp} {d e : PyData} {v w : V} (f : flatD d = true) (f' : flatD e = true) (h : Rp K S H d v) (h' : Rp K S' H e w) : eqV v w = PyData.eqv d e := by
  cases d <;> first | cases f | skip
  all_goals
    rw [Rp] at h
    subst h
    cases e <;> first | cases f' | skip
    all_goals
      rw [Rp] at h'
      subst h'
      simp [eqV, PyData.eqv]
theorem flat_any {K : PySem.W.Frag} {S S' : Av} {H : Hp} {d : PyData} {v : V} (f : flatD d = true) (h : Rp K S H d v) : ∀ {ds : List PyData} {vs : List V}, ds.all flatD = true → RpA K S' H ds vs → vs.all flatV = true ∧ (vs.any fun y => eqV y v) = ds.any fun z => PyData.eqv z d
  | [], _, _, q => by rw [RpA] at q; subst q; exact ⟨rfl, rfl⟩
  | e :: ds, _, a, q => by
    rw [RpA] at q
    obtain ⟨x, r, rfl, q1, q2⟩ := q
    rw [List.all_cons, Bool.and_eq_true] at a
    obtain ⟨i1, i2⟩ := flat_any f h a.2 q2
    rw [List.all_cons, List.any_cons, List.any_cons, i1, i2, flat_v a.1 q1, flat_eqv a.1 f q1 h]
    exact ⟨rfl, rfl⟩
theorem rule_in {K : PySem.W.Frag} : RuleC K (fun x y H Q => rIn K false x y H Q ∨ rInD K x y H Q) inS := by
  intro S H d1 d2 v1 v2 b Q h1 h2 e q
  unfold inS at e
  split at e
  · obtain ⟨c, rfl⟩ := ifc_eq e
    rw [Bool.and_eq_true] at c
    exact .inr ⟨_, _, h1.dp (SeqAt.canLay_of_shaped c.1), h2.dp (SeqAt.canLay_of_shaped c.2), c.1, c.2, q⟩
  · obtain ⟨c, rfl⟩ := ifc_eq e
    rw [Bool.and_eq_true] at c
    obtain ⟨a, xs, rfl, r1, q1⟩ := rdp_tup h2
    have h1' : Rp K S H d1 v1 := by
      cases d1 <;> first | exact h1 | cases c.1
    obtain ⟨i1, i2⟩ := flat_any c.1 h1' c.2 q1
    refine .inl ⟨a, xs, rfl, .inr r1, flat_v c.1 h1', i1, ?_⟩
    rw [if_neg Bool.false_ne_true]
    unfold inV
    rw [i2]
    exact q
  · cases e
theorem rule_notIn {K : PySem.W.Frag} : RuleC K (fun x y H Q => rIn K true x y H Q ∨ rNotInD K x y H Q) (fun a b => (inS a b).map (!·)) := by
  intro S H d1 d2 v1 v2 b Q h1 h2 e q
  obtain ⟨b', e0, rfl⟩ := Option.map_eq_some_iff.mp e
  clear e
  rename _ = some b' => e
  unfold inS at e
  split at e
  · obtain ⟨c, rfl⟩ := ifc_eq e
    rw [Bool.and_eq_true] at c
    exact .inr ⟨_, _, h1.dp (SeqAt.canLay_of_shaped c.1), h2.dp (SeqAt.canLay_of_shaped c.2), c.1, c.2, q⟩
  · obtain ⟨c, rfl⟩ := ifc_eq e
    rw [Bool.and_eq_true] at c
    obtain ⟨a, xs, rfl, r1, q1⟩ := rdp_tup h2
    have h1' : Rp K S H d1 v1 := by
      cases d1 <;> first | exact h1 | cases c.1
    obtain ⟨i1, i2⟩ := flat_any c.1 h1' c.2 q1
    refine .inl ⟨a, xs, rfl, .inr r1, flat_v c.1 h1', i1, ?_⟩
    rw [if_pos rfl]
    unfold inV
    rw [i2]
    exact q
  · cases e
theorem cmp_any {op : CmpOp} (hu : X.A.units + 65 < cLine) : ∃ r, OpR X (compareOp op) r ∧ RuleC X.K r (cmpS op) := by
  have hu' : X.A.units + 64 < cLine := by omega
  cases op
  case Eq => exact ⟨_, (op_eq.or (op_eqD hu')).or (op_eqNil (by omega)), rule_eq⟩
  case NotEq => exact ⟨_, (op_ne.or (op_neD hu')).or (op_neNil (by omega)), rule_ne⟩
  case Lt => exact ⟨_, op_lt, rule_lt _⟩
  case LtE => exact ⟨_, op_le, rule_lt _⟩
  case Gt => exact ⟨_, op_gt, rule_lt fun i j => decide (j < i)⟩
  case GtE => exact ⟨_, op_ge, rule_lt fun i j => decide (j ≤ i)⟩
  case In => exact ⟨_, op_in_seq.or (op_inD hu), rule_in⟩
  case NotIn => exact ⟨_, op_notIn_seq.or (op_notInD hu), rule_notIn⟩
  all_goals exact ⟨fun _ _ _ _ => False, fun _ _ _ _ _ _ _ _ _ _ _ _ h => h.elim, fun _ _ _ _ _ _ _ _ _ _ e _ => nomatch e⟩
end
end Mz

set_option Elab.async false
set_option linter.all false
set_option maxRecDepth 100000
set_option autoImplicit false
/-! Mz3: expressions: names, constants, displays, operators, comparisons, and, or, not, if. -/
namespace Mz
open PySem PySem.Spec L2
open PyProof.Rows hiding St

abbrev MU := Z → Option (U × Z)
abbrev ML := Z → Option (List U × Z)
def vE (i : Nat) : MU := fun z => match z.r[i]? with
  | some (.val x) => some (.d x, z)
  | some (.own _) => some (.loc i, z)
  | some (.lck _) => some (.loc i, z)
  | some .bag => some (.bag, z)
  | _ => none
def cE (d : PyData) : MU := fun z => some (.d d, z)
def nilE : ML := fun z => some ([], z)
def consE (f : MU) (r : ML) : ML := fun z => (f z).bind fun p => (r p.2).bind fun q => some (p.1 :: q.1, q.2)
def binE (op : Operator) (f g : MU) : MU := fun z => (f z).bind fun p => (g p.2).bind fun q => (rd q.2 p.1).bind fun d1 => (rd q.2 q.1).bind fun d2 => (binS op d1 d2).bind fun w => some (w.u, q.2)
def cmpE (op : CmpOp) (f g : MU) : MU := fun z => (f z).bind fun p => (g p.2).bind fun q => (rd q.2 p.1).bind fun d1 => (rd q.2 q.1).bind fun d2 => (cmpS op d1 d2).bind fun b => some (.d (.bool b), q.2)
def chainE (op op' : CmpOp) (f g h : MU) : MU := fun z => (f z).bind fun p => (g p.2).bind fun q => (rd q.2 p.1).bind fun d1 => (rd q.2 q.1).bind fun d2 => (cmpS op d1 d2).bind fun b =>
  if b then (h q.2).bind fun r => (rd r.2 q.1).bind fun d2 => (rd r.2 r.1).bind fun d3 => (cmpS op' d2 d3).bind fun b => some (.d (.bool b), r.2) else some (.d (.bool false), q.2)
def asB : U → Option Bool
  | .d (.bool c) => some c
  | _ => none
/-- the constants that `is` is asked with -/
inductive Cst where
  | non | bl (b : Bool)
def isCst : Cst → PyData → Bool
  | .non, .none => true
  | .bl b, .bool c => c == b
  | _, _ => false
def isE (neg : Bool) (c : Cst) (f : MU) : MU := fun z => (f z).bind fun p => (rd p.2 p.1).bind fun d => some (.d (.bool (if neg then !isCst c d else isCst c d)), p.2)
def notE (f : MU) : MU := fun z => (f z).bind fun p => (asB p.1).bind fun b => some (.d (.bool (!b)), p.2)
def andE (f g : MU) : MU := fun z => (f z).bind fun p => (asB p.1).bind fun b => if b then g p.2 else some (.d (.bool false), p.2)
def orE (f g : MU) : MU := fun z => (f z).bind fun p => (asB p.1).bind fun b => if b then some (.d (.bool true), p.2) else g p.2
def iteE (c f g : MU) : MU := fun z => (c z).bind fun p => (asB p.1).bind fun b => if b then f p.2 else g p.2

theorem bnd {α β : Type} {o : Option α} {f : α → Option β} {b : β} (h : o.bind f = some b) : ∃ a, o = some a ∧ f a = some b := Option.bind_eq_some_iff.mp h

section
variable {X : Cx} {g : Gb} {a b c : Expr} {f f1 f2 f3 : MU} {fl : ML} {pos : Pos}

theorem Post.same {K : PySem.W.Frag} {S : Av} {σ : St} {H : Hp} {z : Z} {u : U} {v : V} (e : ER K g S σ H z) (r : RU K g S σ H z u v) (n : ∀ a, ¬ tmp u v a) : Post K g S σ H z u z v H where
  kp := Kp.refl
  ow := fun _ h => h
  er := e.sub fun a h => h.elim id fun t => absurd t (n a)
  ru := r.mv e Kp.refl (fun _ h => h) (fun _ h => .inl h) fun a h => h.elim .inl fun t => absurd t (n a)
  fr := fun a h => absurd h (n a)
  lk := Lk.refl
theorem de_var {i : Nat} {x : Str} (hN : X.N[i]? = some x) (hv : Vis X.env.scope x) (hd : (x == ("__debug__" : Str)) = false) (hcd : (x == ("__classdict__" : Str)) = false) : PE X (.Name x pos) (TEf X.K g (vE i)) := by
  refine peI (pe_var hN hv hd hcd) fun σ H Q h => ?_
  obtain ⟨S, z, u, z', e, h, q⟩ := h
  unfold vE at h
  split at h <;> first | cases h | skip
  · rename_i x hx
    obtain ⟨v, h1, h2⟩ := e.val i x hx
    exact ⟨v, h1, q v H (Post.same e h2 fun a t => t)⟩
  · rename_i xs hx
    obtain ⟨a, vs, h1, h2⟩ := e.own i xs ⟨_, hx, rfl⟩
    exact ⟨_, h1, q _ H (Post.same e (show RU X.K g S σ H z (.loc i) (.ref a) from h1) fun a t => t)⟩
  · rename_i xs hx
    obtain ⟨a, vs, h1, h2⟩ := e.own i xs ⟨_, hx, rfl⟩
    exact ⟨_, h1, q _ H (Post.same e (show RU X.K g S σ H z (.loc i) (.ref a) from h1) fun a t => t)⟩
  · rename_i hx
    obtain ⟨b, c, h1, h2⟩ := e.bgs i hx
    exact ⟨_, h2, q _ H (Post.same e (show RU X.K g S σ H z .bag (.ref b) from ⟨b, c, h1, rfl⟩) fun a t => t)⟩
theorem de_const {v : V} {d : PyData} (h : PE X a (tC v)) (hr : ∀ S H, Rp X.K S H d v) : PE X a (TEf X.K g (cE d)) := by
  refine peI h fun σ H Q h => ?_
  obtain ⟨S, z, u, z', e, h, q⟩ := h
  cases h
  exact q v H (Post.same e (hr _ _) fun a t => t)
theorem de_int {i : Int} {j : Nat} : PE X (.Constant (.int i) j pos) (TEf X.K g (cE (.int i))) := de_const pe_int fun _ _ => by rw [Rp]
theorem de_bl {i : Bool} {j : Nat} : PE X (.Constant (.bool i) j pos) (TEf X.K g (cE (.bool i))) := de_const pe_bl fun _ _ => by rw [Rp]
theorem de_str {i : Str} {j : Nat} : PE X (.Constant (.str i) j pos) (TEf X.K g (cE (.str i))) := de_const pe_str fun _ _ => by rw [Rp]
theorem de_non {j : Nat} : PE X (.Constant .none j pos) (TEf X.K g (cE .none)) := de_const pe_non fun _ _ => by rw [Rp]

/-! ### one after another -/
section
variable {K : PySem.W.Frag} {S : Av} {σ : St} {H : Hp} {z z1 z2 : Z} {u1 u2 : U} {us : List U}
theorem seq1 {R : V → Hp → Prop} (e : ER K g S σ H z) (h1 : f z = some (u1, z1)) (k : ∀ v1 H1, PostL K g S σ H z [u1] z1 [v1] H1 → R v1 H1) : TEf K g f σ H R :=
  ⟨S, z, u1, z1, e, h1, fun v1 H1 p1 => k v1 H1 (.cons p1 (.nil p1.er))⟩
theorem seq2 {R : V → V → Hp → Prop} (e : ER K g S σ H z) (h1 : f1 z = some (u1, z1)) (h2 : f2 z1 = some (u2, z2)) (k : ∀ v1 v2 H2, PostL K g S σ H z [u1, u2] z2 [v1, v2] H2 → R v1 v2 H2) :
    TEf K g f1 σ H fun x H1 => TEf K g f2 σ H1 fun y H2 => R x y H2 :=
  ⟨S, z, u1, z1, e, h1, fun v1 H1 p1 => ⟨_, z1, u2, z2, p1.er, h2, fun v2 H2 p2 => k v1 v2 H2 (.cons p1 (.cons p2 (.nil p2.er)))⟩⟩
theorem seqL {R : List V → Hp → Prop} (e : ER K g S σ H z) (h1 : fl z = some (us, z1)) (k : ∀ vs H1, PostL K g S σ H z us z1 vs H1 → R vs H1) : TAf K g fl σ H R :=
  ⟨S, z, us, z1, e, h1, k⟩
theorem rds1 {u : U} {d : PyData} (h : rd z u = some d) : rds z [u] = some [d] := by unfold rds; rw [h]; rfl
theorem rds2 {u w : U} {d e : PyData} (h : rd z u = some d) (h' : rd z w = some e) : rds z [u, w] = some [d, e] := by unfold rds; rw [h, rds1 h']
/-- the values of a list of expressions, read -/
theorem PostL.read {z' : Z} {vs : List V} {ds : List PyData} {H' : Hp} (p : PostL K g S σ H z us z' vs H') (h : rds z' us = some ds) : RdPs K (fun a => S a ∨ Ow g σ z'.r a) H' ds vs :=
  (p.ru.read p.er h).sub fun a h => h.elim (fun h => .inl (.inl h)) .inr
theorem PostL.trk {z' : Z} {vs : List V} {H' : Hp} (p : PostL K g S σ H z us z' vs H') : tracked (fun a => S a ∨ Ow g σ z'.r a) H' := fun a h => h.elim (fun s => p.er.trk a (.inl s)) fun o => p.er.avTrk a (.inr o)
theorem PostL.read2 {z' : Z} {v1 v2 : V} {d1 d2 : PyData} {H' : Hp} (p : PostL K g S σ H z [u1, u2] z' [v1, v2] H') (h1 : rd z' u1 = some d1) (h2 : rd z' u2 = some d2) :
    RdP K (fun a => S a ∨ Ow g σ z'.r a) H' d1 v1 ∧ RdP K (fun a => S a ∨ Ow g σ z'.r a) H' d2 v2 := by
  obtain ⟨_, _, e, q1, _, _, e', q2, _⟩ := p.read (rds2 h1 h2)
  cases e; cases e'
  exact ⟨q1, q2⟩
theorem PostL.read1 {z' : Z} {v1 : V} {d1 : PyData} {H' : Hp} (p : PostL K g S σ H z [u1] z' [v1] H') (h1 : rd z' u1 = some d1) : RdP K (fun a => S a ∨ Ow g σ z'.r a) H' d1 v1 := by
  obtain ⟨_, _, e, q1, _⟩ := p.read (rds1 h1)
  cases e
  exact q1
/-- nothing new, some plain answer -/
theorem PostL.ans {z' : Z} {vs : List V} {H' : Hp} (p : PostL K g S σ H z us z' vs H') (b : Bool) : Post K g S σ H z (.d (.bool b)) z' (.bl b) H' := Post.fin (w := .d (.bool b)) p Ext.refl (rw_bl b)
end

theorem de_bin {op : Operator} (ha : PE X a (TEf X.K g f1)) (hb : PE X b (TEf X.K g f2)) : PE X (.BinOp a op b pos) (TEf X.K g (binE op f1 f2)) := by
  obtain ⟨r, ho, hr⟩ := op_any (X := X) (op := op)
  refine peI (pe_op ho ha hb) fun σ H Q h => ?_
  obtain ⟨S, z, u, z', e, h, q⟩ := h
  obtain ⟨⟨u1, z1⟩, h1, h⟩ := bnd h
  obtain ⟨⟨u2, z2⟩, h2, h⟩ := bnd h
  obtain ⟨d1, r1, h⟩ := bnd h
  obtain ⟨d2, r2, h⟩ := bnd h
  obtain ⟨w, hw, h⟩ := bnd h
  cases h
  refine seq2 e h1 h2 fun v1 v2 H2 p => ?_
  obtain ⟨q1, q2⟩ := p.read2 r1 r2
  exact hr _ _ _ _ _ _ _ _ p.trk q1 q2 hw fun v H' x rw => q v H' (Post.fin p x rw)
theorem de_cmp {op : CmpOp} (hu : X.A.units + 65 < cLine) (ha : PE X a (TEf X.K g f1)) (hb : PE X b (TEf X.K g f2)) (hm : behindInMarks op b = false) : PE X (.Compare a [op] [b] pos) (TEf X.K g (cmpE op f1 f2)) := by
  obtain ⟨r, ho, hr⟩ := cmp_any (X := X) (op := op) hu
  refine peI (pe_cmpR ho ha hb hm) fun σ H Q h => ?_
  obtain ⟨S, z, u, z', e, h, q⟩ := h
  obtain ⟨⟨u1, z1⟩, h1, h⟩ := bnd h
  obtain ⟨⟨u2, z2⟩, h2, h⟩ := bnd h
  obtain ⟨d1, r1, h⟩ := bnd h
  obtain ⟨d2, r2, h⟩ := bnd h
  obtain ⟨w, hw, h⟩ := bnd h
  cases h
  refine seq2 e h1 h2 fun v1 v2 H2 p => ?_
  obtain ⟨q1, q2⟩ := p.read2 r1 r2
  exact hr _ _ _ _ _ _ _ _ q1 q2 hw (q _ _ (p.ans _))
end
end Mz

set_option Elab.async false
set_option linter.all false
set_option maxRecDepth 100000
set_option autoImplicit false
/-! Mz4: chains, is, tests, and, or, not, if. -/
namespace Mz
open PySem PySem.Spec L2
open PyProof.Rows hiding St

section
variable {K : PySem.W.Frag} {g : Gb} {S : Av} {σ : St} {H H1 H2 : Hp} {z z1 z2 : Z} {u u1 u2 : U} {v v1 v2 : V} {d : PyData}
theorem Post.then (n : ∀ a, ¬ tmp u1 v1 a) (p : Post K g S σ H z u1 z1 v1 H1) (q : Post K g S σ H1 z1 u2 z2 v2 H2) : Post K g S σ H z u2 z2 v2 H2 where
  kp := p.kp.trans q.kp p.ow
  ow := fun a h => p.ow a (q.ow a h)
  er := q.er
  ru := q.ru
  fr := fun a h => by
    have e1 := q.fr a h
    cases e : H a with
    | none => rfl
    | some o => exact absurd e1 (p.kp.tr a (by rw [e]; exact fun z => nomatch z))
  lk := p.lk.trans q.lk
theorem Post.er0 (p : Post K g S σ H z u z1 v H1) : ER K g S σ H1 z1 := p.er.sub fun _ h => .inl h
theorem asB_eq {b : Bool} (h : asB u = some b) : u = .d (.bool b) := by
  unfold asB at h
  split at h
  · cases h; rfl
  · cases h
theorem bl_of {b : Bool} {T : Av} {z : Z} (h : RU K g T σ H z (.d (.bool b)) v) : v = .bl b := by
  have h : Rp K (fun a => T a ∨ Ow g σ z.r a) H (.bool b) v := h
  rw [Rp] at h; exact h
theorem Post.bl {b : Bool} (p : Post K g S σ H z (.d (.bool b)) z1 v H1) : v = .bl b := bl_of p.ru
theorem nt {x : PyData} : ∀ a, ¬ tmp (.d x) v a := fun a h => h
end

section
variable {X : Cx} {g : Gb} {a b c : Expr} {rest : List Expr} {f f1 f2 f3 : MU} {fl : ML} {pos : Pos}
/-- a test from a value that is a bool -/
theorem dt_val (h : PE X a (TEf X.K g f)) (he : ∀ whole, isTrue a X.env whole = (do let v ← whole; standAt a.pos; holding [v] (truthy v))) : PT X a (TTf X.K g f) := by
  refine ptI (pt_val h he) fun σ H Q h => ?_
  obtain ⟨S, z, b, z', e, h, q⟩ := h
  exact ⟨S, z, _, z', e, h, fun v H' p => ⟨b, p.bl, q H' (p.bl ▸ p)⟩⟩
theorem dt_cmp {op : CmpOp} (hu : X.A.units + 65 < cLine) (ha : PE X a (TEf X.K g f1)) (hb : PE X b (TEf X.K g f2)) (hm : behindInMarks op b = false) : PT X (.Compare a [op] [b] pos) (TTf X.K g (cmpE op f1 f2)) := by
  obtain ⟨r, ho, hr⟩ := cmp_any (X := X) (op := op) hu
  refine ptI (pt_cmpR ho ha hb hm) fun σ H Q h => ?_
  obtain ⟨S, z, u, z', e, h, q⟩ := h
  obtain ⟨⟨u1, z1⟩, h1, h⟩ := bnd h
  obtain ⟨⟨u2, z2⟩, h2, h⟩ := bnd h
  obtain ⟨d1, r1, h⟩ := bnd h
  obtain ⟨d2, r2, h⟩ := bnd h
  obtain ⟨w, hw, h⟩ := bnd h
  cases h
  refine seq2 e h1 h2 fun v1 v2 H2 p => ?_
  obtain ⟨q1, q2⟩ := p.read2 r1 r2
  exact hr _ _ _ _ _ _ _ _ q1 q2 hw ⟨_, rfl, q _ (p.ans _)⟩
theorem de_chain {op op' : CmpOp} (hu : X.A.units + 65 < cLine) (ha : PE X a (TEf X.K g f1)) (hb : PE X b (TEf X.K g f2)) (hc : PE X c (TEf X.K g f3)) (hm : lastMarks [op, op'] [b, c] = false) : PE X (.Compare a [op, op'] [b, c] pos) (TEf X.K g (chainE op op' f1 f2 f3)) := by
  obtain ⟨r, ho, hr⟩ := cmp_any (X := X) (op := op) hu
  obtain ⟨r', ho', hr'⟩ := cmp_any (X := X) (op := op') hu
  refine peI (pe_chain ho ho' ha hb hc hm) fun σ H Q h => ?_
  obtain ⟨S, z, u, z', e, h, q⟩ := h
  obtain ⟨⟨u1, z1⟩, h1, h⟩ := bnd h
  obtain ⟨⟨u2, z2⟩, h2, h⟩ := bnd h
  obtain ⟨d1, r1, h⟩ := bnd h
  obtain ⟨d2, r2, h⟩ := bnd h
  obtain ⟨w, hw, h⟩ := bnd h
  refine ⟨S, z, u1, z1, e, h1, fun v1 H1 p1 => ⟨_, z1, u2, z2, p1.er, h2, fun v2 H2 p2 => ?_⟩⟩
  have p := PostL.cons p1 (.cons p2 (.nil p2.er))
  obtain ⟨q1, q2⟩ := p.read2 r1 r2
  refine hr _ _ _ _ _ _ _ _ q1 q2 hw ⟨w, rfl, ?_⟩
  cases w with
  | false =>
    rw [if_neg Bool.false_ne_true]
    rw [if_neg Bool.false_ne_true] at h
    cases h
    exact q _ _ (p.ans _)
  | true =>
    rw [if_pos rfl]
    rw [if_pos rfl] at h
    obtain ⟨⟨u3, z3⟩, h3, h⟩ := bnd h
    obtain ⟨e2, r3, h⟩ := bnd h
    obtain ⟨e3, r4, h⟩ := bnd h
    obtain ⟨w', hw', h⟩ := bnd h
    cases h
    refine ⟨_, z2, u3, z3, p2.er, h3, fun v3 H3 p3 => ?_⟩
    have p' := PostL.cons p1 (.cons p2 (.cons p3 (.nil p3.er)))
    have rs : RdPs X.K (fun _ => False) H3 [e2, e3] [v2, v3] := by
      obtain ⟨x, xs, e0, q1, q2, q3⟩ := p'.ru
      cases e0
      exact (RUL.read q2 p'.er (rds2 r3 r4)).sub fun a h => h.elim
    obtain ⟨x, xs, e0, k1, y, ys, e1, k2, _⟩ := rs
    cases e0; cases e1
    exact hr' _ _ _ _ _ _ _ _ k1 k2 hw' (q _ _ (p'.ans _))
theorem dt_chain {op op' : CmpOp} (hu : X.A.units + 65 < cLine) (ha : PE X a (TEf X.K g f1)) (hb : PE X b (TEf X.K g f2)) (hc : PE X c (TEf X.K g f3)) (hm : lastMarks [op, op'] [b, c] = false) : PT X (.Compare a [op, op'] [b, c] pos) (TTf X.K g (chainE op op' f1 f2 f3)) := by
  obtain ⟨r, ho, hr⟩ := cmp_any (X := X) (op := op) hu
  obtain ⟨r', ho', hr'⟩ := cmp_any (X := X) (op := op') hu
  refine ptI (pt_chain ho ho' ha hb hc hm) fun σ H Q h => ?_
  obtain ⟨S, z, u, z', e, h, q⟩ := h
  obtain ⟨⟨u1, z1⟩, h1, h⟩ := bnd h
  obtain ⟨⟨u2, z2⟩, h2, h⟩ := bnd h
  obtain ⟨d1, r1, h⟩ := bnd h
  obtain ⟨d2, r2, h⟩ := bnd h
  obtain ⟨w, hw, h⟩ := bnd h
  refine ⟨S, z, u1, z1, e, h1, fun v1 H1 p1 => ⟨_, z1, u2, z2, p1.er, h2, fun v2 H2 p2 => ?_⟩⟩
  have p := PostL.cons p1 (.cons p2 (.nil p2.er))
  obtain ⟨q1, q2⟩ := p.read2 r1 r2
  refine hr _ _ _ _ _ _ _ _ q1 q2 hw ⟨w, rfl, ?_⟩
  cases w with
  | false =>
    rw [if_neg Bool.false_ne_true]
    rw [if_neg Bool.false_ne_true] at h
    cases h
    exact ⟨_, rfl, q _ (p.ans _)⟩
  | true =>
    rw [if_pos rfl]
    rw [if_pos rfl] at h
    obtain ⟨⟨u3, z3⟩, h3, h⟩ := bnd h
    obtain ⟨e2, r3, h⟩ := bnd h
    obtain ⟨e3, r4, h⟩ := bnd h
    obtain ⟨w', hw', h⟩ := bnd h
    cases h
    refine ⟨_, z2, u3, z3, p2.er, h3, fun v3 H3 p3 => ?_⟩
    have p' := PostL.cons p1 (.cons p2 (.cons p3 (.nil p3.er)))
    have rs : RdPs X.K (fun _ => False) H3 [e2, e3] [v2, v3] := by
      obtain ⟨x, xs, e0, q1, q2, q3⟩ := p'.ru
      cases e0
      exact (RUL.read q2 p'.er (rds2 r3 r4)).sub fun a h => h.elim
    obtain ⟨x, xs, e0, k1, y, ys, e1, k2, _⟩ := rs
    cases e0; cases e1
    exact hr' _ _ _ _ _ _ _ _ k1 k2 hw' ⟨_, rfl, q _ (p'.ans _)⟩

/-! ### is -/
def cstV : Cst → V
  | .non => .non
  | .bl b => .bl b
theorem op_isC (k : Cst) : OpR X (compareOp .Is) (fun x y H Q => y = cstV k ∧ Q (.bl (decide (x = cstV k))) H) := by
  intro pins s σ H x y v u Q I rx ry h
  obtain ⟨rfl, q⟩ := h
  cases k with
  | non =>
    cases ry
    cases x <;> first
      | (cases rx; exact wpAny_pure (fin_bl I q (by simp [cstV])))
      | (obtain ⟨t, rfl⟩ := rx; exact wpAny_pure (fin_bl I q (by simp [cstV])))
  | bl b =>
    cases ry
    have e2 : ∀ c : Bool, decide (V.bl c = V.bl b) = (Value.bool c == Value.bool b) := fun c => by cases b <;> cases c <;> decide
    cases x <;> first
      | (cases rx; exact wpAny_pure (fin_bl I q (by first | exact e2 _ | exact congrArg not (e2 _) | simp [cstV])))
      | (obtain ⟨t, rfl⟩ := rx; exact wpAny_pure (fin_bl I q (by simp [cstV])))
theorem op_isntC (k : Cst) : OpR X (compareOp .IsNot) (fun x y H Q => y = cstV k ∧ Q (.bl (!decide (x = cstV k))) H) := by
  intro pins s σ H x y v u Q I rx ry h
  obtain ⟨rfl, q⟩ := h
  cases k with
  | non =>
    cases ry
    cases x <;> first
      | (cases rx; exact wpAny_pure (fin_bl I q (by simp [cstV])))
      | (obtain ⟨t, rfl⟩ := rx; exact wpAny_pure (fin_bl I q (by simp [cstV])))
  | bl b =>
    cases ry
    have e2 : ∀ c : Bool, decide (V.bl c = V.bl b) = (Value.bool c == Value.bool b) := fun c => by cases b <;> cases c <;> decide
    cases x <;> first
      | (cases rx; exact wpAny_pure (fin_bl I q (by first | exact e2 _ | exact congrArg not (e2 _) | simp [cstV])))
      | (obtain ⟨t, rfl⟩ := rx; exact wpAny_pure (fin_bl I q (by simp [cstV])))
theorem isCst_eq {K : PySem.W.Frag} {S : Av} {H : Hp} {d : PyData} {v : V} (h : RdP K S H d v) (k : Cst) : decide (v = cstV k) = isCst k d := by
  cases d with
  | list ds => obtain ⟨a, xs, rfl, _⟩ := h; cases k <;> rfl
  | none => rw [rdp_non h]; cases k <;> simp [cstV, isCst]
  | bool b => rw [rdp_bl h]; cases k with
    | non => rfl
    | bl c => cases b <;> cases c <;> rfl
  | int b => rw [rdp_int h]; cases k <;> simp [cstV, isCst]
  | str b => rw [rdp_str h]; cases k <;> simp [cstV, isCst]
  | tuple ds => obtain ⟨a, xs, rfl, _⟩ := rdp_tup h; cases k <;> rfl
  | dict ds =>
    have h : Rp K S H _ v := h
    rw [Rp] at h
    obtain ⟨a, xs, rfl, _⟩ := h
    cases k <;> rfl
theorem de_is {k : Cst} (ha : PE X a (TEf X.K g f1)) (hb : PE X b (tC (cstV k))) : PE X (.Compare a [.Is] [b] pos) (TEf X.K g (isE false k f1)) := by
  refine peI (pe_cmpR (op_isC k) ha hb (nomark _)) fun σ H Q h => ?_
  obtain ⟨S, z, u, z', e, h, q⟩ := h
  obtain ⟨⟨u1, z1⟩, h1, h⟩ := bnd h
  obtain ⟨d1, r1, h⟩ := bnd h
  cases h
  refine seq1 e h1 fun v1 H1 p => ⟨rfl, ?_⟩
  rw [isCst_eq (p.read1 r1)]
  exact q _ _ (p.ans _)
theorem de_isnt {k : Cst} (ha : PE X a (TEf X.K g f1)) (hb : PE X b (tC (cstV k))) : PE X (.Compare a [.IsNot] [b] pos) (TEf X.K g (isE true k f1)) := by
  refine peI (pe_cmpR (op_isntC k) ha hb (nomark _)) fun σ H Q h => ?_
  obtain ⟨S, z, u, z', e, h, q⟩ := h
  obtain ⟨⟨u1, z1⟩, h1, h⟩ := bnd h
  obtain ⟨d1, r1, h⟩ := bnd h
  cases h
  refine seq1 e h1 fun v1 H1 p => ⟨rfl, ?_⟩
  rw [isCst_eq (p.read1 r1)]
  exact q _ _ (p.ans _)
theorem dt_is {k : Cst} (ha : PE X a (TEf X.K g f1)) (hb : PE X b (tC (cstV k))) : PT X (.Compare a [.Is] [b] pos) (TTf X.K g (isE false k f1)) := by
  refine ptI (pt_cmpR (op_isC k) ha hb (nomark _)) fun σ H Q h => ?_
  obtain ⟨S, z, u, z', e, h, q⟩ := h
  obtain ⟨⟨u1, z1⟩, h1, h⟩ := bnd h
  obtain ⟨d1, r1, h⟩ := bnd h
  cases h
  refine seq1 e h1 fun v1 H1 p => ⟨rfl, ?_⟩
  rw [isCst_eq (p.read1 r1)]
  exact ⟨_, rfl, q _ (p.ans _)⟩
theorem dt_isnt {k : Cst} (ha : PE X a (TEf X.K g f1)) (hb : PE X b (tC (cstV k))) : PT X (.Compare a [.IsNot] [b] pos) (TTf X.K g (isE true k f1)) := by
  refine ptI (pt_cmpR (op_isntC k) ha hb (nomark _)) fun σ H Q h => ?_
  obtain ⟨S, z, u, z', e, h, q⟩ := h
  obtain ⟨⟨u1, z1⟩, h1, h⟩ := bnd h
  obtain ⟨d1, r1, h⟩ := bnd h
  cases h
  refine seq1 e h1 fun v1 H1 p => ⟨rfl, ?_⟩
  rw [isCst_eq (p.read1 r1)]
  exact ⟨_, rfl, q _ (p.ans _)⟩

/-! ### not, and, or, if -/
theorem Post.b1 {K : PySem.W.Frag} {S : Av} {σ : St} {H H1 : Hp} {z z1 : Z} {b : Bool} {v : V} (p : Post K g S σ H z (.d (.bool b)) z1 v H1) (c : Bool) : Post K g S σ H z (.d (.bool c)) z1 (.bl c) H1 :=
  Post.then nt p (Post.same p.er0 (show Rp K (fun a => S a ∨ Ow g σ z1.r a) H1 (.bool c) (.bl c) by rw [Rp]) nt)
theorem de_not (ha : PE X a (TEf X.K g f1)) : PE X (.UnaryOp .Not a pos) (TEf X.K g (notE f1)) := by
  refine peI (pe_not ha) fun σ H Q h => ?_
  obtain ⟨S, z, u, z', e, h, q⟩ := h
  obtain ⟨⟨u1, z1⟩, h1, h⟩ := bnd h
  obtain ⟨b, hb, h⟩ := bnd h
  cases h
  obtain rfl := asB_eq hb
  exact ⟨S, z, _, z1, e, h1, fun v H' p => ⟨b, p.bl, q _ _ (p.b1 _)⟩⟩
theorem dt_not (ha : PT X a (TTf X.K g f1)) : PT X (.UnaryOp .Not a pos) (TTf X.K g (notE f1)) := by
  refine ptI (pt_not ha) fun σ H Q h => ?_
  obtain ⟨S, z, c, z', e, h, q⟩ := h
  obtain ⟨⟨u1, z1⟩, h1, h⟩ := bnd h
  obtain ⟨b, hb, h⟩ := bnd h
  cases h
  obtain rfl := asB_eq hb
  exact ⟨S, z, b, z1, e, h1, fun H' p => q _ (p.b1 _)⟩
theorem de_one {op : BoolOp} (ha : PE X a (TEf X.K g f1)) : PE X (.BoolOp op [a] pos) (TEf X.K g f1) := pe_one ha
theorem de_and (ha : PE X a (TEf X.K g f1)) (hb : PE X (.BoolOp .And (b :: rest) pos) (TEf X.K g f2)) : PE X (.BoolOp .And (a :: b :: rest) pos) (TEf X.K g (andE f1 f2)) := by
  refine peI (pe_and ha hb) fun σ H Q h => ?_
  obtain ⟨S, z, u, z', e, h, q⟩ := h
  obtain ⟨⟨u1, z1⟩, h1, h⟩ := bnd h
  obtain ⟨c, hc, h⟩ := bnd h
  obtain rfl := asB_eq hc
  refine ⟨S, z, _, z1, e, h1, fun v H' p => ⟨c, p.bl, ?_⟩⟩
  cases c with
  | true => exact iteT ⟨S, z1, u, z', p.er0, h, fun v2 H2 p2 => q v2 H2 (p.then nt p2)⟩
  | false => cases h; exact iteF (q _ _ (p.b1 _))
theorem de_or (ha : PE X a (TEf X.K g f1)) (hb : PE X (.BoolOp .Or (b :: rest) pos) (TEf X.K g f2)) : PE X (.BoolOp .Or (a :: b :: rest) pos) (TEf X.K g (orE f1 f2)) := by
  refine peI (pe_or ha hb) fun σ H Q h => ?_
  obtain ⟨S, z, u, z', e, h, q⟩ := h
  obtain ⟨⟨u1, z1⟩, h1, h⟩ := bnd h
  obtain ⟨c, hc, h⟩ := bnd h
  obtain rfl := asB_eq hc
  refine ⟨S, z, _, z1, e, h1, fun v H' p => ⟨c, p.bl, ?_⟩⟩
  cases c with
  | false => exact iteF ⟨S, z1, u, z', p.er0, h, fun v2 H2 p2 => q v2 H2 (p.then nt p2)⟩
  | true => cases h; exact iteT (q _ _ (p.b1 _))
theorem dw_and1 (ha : PT X a (TTf X.K g f1)) : PW X (.BoolOp .And [a] pos) (TTf X.K g f1) := pw_and1 ha
theorem dw_or1 (ha : PT X a (TTf X.K g f1)) : PW X (.BoolOp .Or [a] pos) (TTf X.K g f1) := pw_or1 ha
theorem pwI {t t' : TT} (h : PW X a t) (i : ∀ σ H Q, t' σ H Q → t σ H Q) : PW X a t' := ⟨fun wh pins s σ H Q I q => h.run wh pins s σ H Q I (i σ H Q q)⟩
theorem dw_and (ha : PT X a (TTf X.K g f1)) (hb : PW X (.BoolOp .And (b :: rest) pos) (TTf X.K g f2)) : PW X (.BoolOp .And (a :: b :: rest) pos) (TTf X.K g (andE f1 f2)) := by
  refine pwI (pw_and ha hb) fun σ H Q h => ?_
  obtain ⟨S, z, u, z', e, h, q⟩ := h
  obtain ⟨⟨u1, z1⟩, h1, h⟩ := bnd h
  obtain ⟨c, hc, h⟩ := bnd h
  obtain rfl := asB_eq hc
  refine ⟨S, z, c, z1, e, h1, fun H' p => ?_⟩
  cases c with
  | true => exact iteT ⟨S, z1, u, z', p.er0, h, fun H2 p2 => q H2 (p.then nt p2)⟩
  | false => cases h; exact iteF (q _ (p.b1 _))
theorem dw_or (ha : PT X a (TTf X.K g f1)) (hb : PW X (.BoolOp .Or (b :: rest) pos) (TTf X.K g f2)) : PW X (.BoolOp .Or (a :: b :: rest) pos) (TTf X.K g (orE f1 f2)) := by
  refine pwI (pw_or ha hb) fun σ H Q h => ?_
  obtain ⟨S, z, u, z', e, h, q⟩ := h
  obtain ⟨⟨u1, z1⟩, h1, h⟩ := bnd h
  obtain ⟨c, hc, h⟩ := bnd h
  obtain rfl := asB_eq hc
  refine ⟨S, z, c, z1, e, h1, fun H' p => ?_⟩
  cases c with
  | false => exact iteF ⟨S, z1, u, z', p.er0, h, fun H2 p2 => q H2 (p.then nt p2)⟩
  | true => cases h; exact iteT (q _ (p.b1 _))
theorem de_ite (hc : PT X c (TTf X.K g f1)) (ha : PE X a (TEf X.K g f2)) (hb : PE X b (TEf X.K g f3)) : PE X (.IfExp c a b pos) (TEf X.K g (iteE f1 f2 f3)) := by
  refine peI (pe_ifExp hc ha hb) fun σ H Q h => ?_
  obtain ⟨S, z, u, z', e, h, q⟩ := h
  obtain ⟨⟨u1, z1⟩, h1, h⟩ := bnd h
  obtain ⟨c, hc, h⟩ := bnd h
  obtain rfl := asB_eq hc
  refine ⟨S, z, c, z1, e, h1, fun H' p => ?_⟩
  cases c with
  | true => exact iteT ⟨S, z1, u, z', p.er0, h, fun v2 H2 p2 => q v2 H2 (p.then nt p2)⟩
  | false => exact iteF ⟨S, z1, u, z', p.er0, h, fun v2 H2 p2 => q v2 H2 (p.then nt p2)⟩
end
end Mz

set_option Elab.async false
set_option linter.all false
set_option maxRecDepth 100000
set_option autoImplicit false
/-! Mz5: values that are kept (a list of one's own is then written no more), displays, subscripts, slices. -/
namespace Mz
open PySem PySem.Spec L2
open PyProof.Rows hiding St

def Z.put (z : Z) (i : Nat) (s : Sl) : Z := ⟨z.r.set i s, z.b⟩
def esc (z : Z) : U → Option (PyData × Z)
  | .d x => some (x, z)
  | .nw xs => some (.list xs, z)
  | .loc i => match z.r[i]? with
    | some (.own xs) => some (.list xs, z.put i (.val (.list xs)))
    | some (.val x) => some (x, z)
    | _ => none
  | .bag => none
def escs : Z → List U → Option (List PyData × Z)
  | z, [] => some ([], z)
  | z, u :: us => (esc z u).bind fun p => (escs p.2 us).bind fun q => some (p.1 :: q.1, q.2)

section
variable {K : PySem.W.Frag} {g : Gb} {S T : Av} {σ : St} {H H' : Hp} {z z' : Z} {u : U} {v : V} {us : List U} {vs : List V} {i : Nat} {xs : List PyData}
theorem own_put {j : Nat} {s : Sl} {ys : List PyData} (h : OwnAt (z.put i s).r j ys) : (j ≠ i ∧ OwnAt z.r j ys) ∨ (j = i ∧ ownL s = some ys) := by
  obtain ⟨t, h1, h2⟩ := h
  by_cases e : j = i
  · subst e
    have h1 : (z.r.set j s)[j]? = some t := h1
    by_cases hl : j < z.r.length
    · rw [List.getElem?_set_self hl] at h1
      cases h1
      exact .inr ⟨rfl, h2⟩
    · rw [List.getElem?_eq_none (by simpa using hl)] at h1; cases h1
  · have h1 : (z.r.set i s)[j]? = some t := h1
    rw [List.getElem?_set_ne (Ne.symm e)] at h1
    exact .inl ⟨e, t, h1, h2⟩
theorem get_put {j : Nat} {s t : Sl} (h : (z.put i s).r[j]? = some t) : (j ≠ i ∧ z.r[j]? = some t) ∨ (j = i ∧ t = s) := by
  have h1 : (z.r.set i s)[j]? = some t := h
  by_cases e : j = i
  · subst e
    by_cases hl : j < z.r.length
    · rw [List.getElem?_set_self hl] at h1
      cases h1
      exact .inr ⟨rfl, rfl⟩
    · rw [List.getElem?_eq_none (by simpa using hl)] at h1; cases h1
  · rw [List.getElem?_set_ne (Ne.symm e)] at h1
    exact .inl ⟨e, h1⟩
/-- the slot's list is kept elsewhere from now on -/
theorem ER.fz (e : ER K g T σ H z) (h : z.r[i]? = some (.own xs)) : ER K g T σ H (z.put i (.val (.list xs))) ∧ (∀ a, Ow g σ (z.put i (.val (.list xs))).r a → Ow g σ z.r a) ∧
    (∀ v, σ[i]? = some (some v) → Rp K (fun a => T a ∨ Ow g σ (z.put i (.val (.list xs))).r a) H (.list xs) v) := by
  have oi : OwnAt z.r i xs := ⟨_, h, rfl⟩
  obtain ⟨a, ws, h1, h2, h3, h4, h5⟩ := e.own i xs oi
  have hno : ∀ {j ys}, OwnAt (z.put i (.val (.list xs))).r j ys → j ≠ i ∧ OwnAt z.r j ys := fun {j ys} q => by
    rcases own_put q with q | ⟨_, q⟩
    · exact q
    · cases q
  have ow : ∀ b, Ow g σ (z.put i (.val (.list xs))).r b → Ow g σ z.r b := fun b q => by
    rcases q with q | ⟨j, ys, o, s⟩
    · exact .inl q
    · exact .inr ⟨j, ys, (hno o).2, s⟩
  have na : ¬ Ow g σ (z.put i (.val (.list xs))).r a := fun q => by
    rcases q with q | ⟨j, ys, o, s⟩
    · exact h3 q
    · exact (hno o).1 (e.dis j i ys xs a (hno o).2 oi s h1)
  have rep : ∀ v, σ[i]? = some (some v) → Rp K (fun a => T a ∨ Ow g σ (z.put i (.val (.list xs))).r a) H (.list xs) v := fun v hv => by
    rw [h1] at hv; cases hv
    rw [Rp]
    exact ⟨a, ws, rfl, fun q => q.elim h2 na, h4, h5.sub fun b q => q.elim .inl fun q => .inr (ow b q)⟩
  refine ⟨⟨by rw [← e.len]; simp [Z.put], e.trk, e.bag, fun j d hj => ?_, fun j ys oj => ?_, fun j k xs ys b o1 o2 => e.dis j k xs ys b (hno o1).2 (hno o2).2, fun j hj => ?_⟩, ow, rep⟩
  · rcases get_put hj with ⟨_, q⟩ | ⟨rfl, q⟩
    · obtain ⟨w, e1, e2⟩ := e.val j d q
      exact ⟨w, e1, e2.sub fun b q => q.elim .inl fun q => .inr (ow b q)⟩
    · cases q
      exact ⟨_, h1, rep _ h1⟩
  · obtain ⟨b, us, k1, k2, k3, k4, k5⟩ := e.own j ys (hno oj).2
    exact ⟨b, us, k1, k2, k3, k4, k5.sub fun b q => q.elim .inl fun q => .inr (ow b q)⟩
  · rcases get_put hj with ⟨_, q⟩ | ⟨rfl, q⟩
    · exact e.bgs j q
    · cases q
theorem Lk.put {s : Sl} (h : ∀ xs, z.r[i]? ≠ some (Sl.lck xs)) : Lk z.r (z.put i s).r := fun j xs hj => by
  show (z.r.set i s)[j]? = _
  by_cases e : i = j
  · subst e; exact absurd hj (h xs)
  · rw [List.getElem?_set_ne e]; exact hj
/-- a value that is kept -/
theorem RU.esc (e : ER K g T σ H z) (r : RU K g T σ H z u v) (ht : ∀ a, tmp u v a → ¬ S a) (hs : ∀ a, S a → T a) {d : PyData} (h : esc z u = some (d, z')) :
    ER K g T σ H z' ∧ (∀ a, Ow g σ z'.r a → Ow g σ z.r a) ∧ Rp K (fun a => S a ∨ Ow g σ z'.r a) H d v ∧ Lk z.r z'.r := by
  cases u with
  | d x => cases h; exact ⟨e, fun _ q => q, Rp.sub (show Rp K _ H d v from r) fun a q => q.elim (fun q => .inl (hs a q)) .inr, Lk.refl⟩
  | nw xs =>
    cases h
    obtain ⟨a, ws, rfl, q1, q2, q3, q4⟩ := r
    refine ⟨e, fun _ q => q, ?_, Lk.refl⟩
    rw [Rp]
    refine ⟨a, ws, rfl, fun q => q.elim (ht a rfl) fun q => ?_, q3, q4.sub fun a q => q.elim (fun q => .inl (hs a q)) .inr⟩
    rcases q with q | ⟨j, ys, o, s⟩
    · exact q2 q
    · obtain ⟨b, us, k1, k2, _⟩ := e.own j ys o
      rw [s] at k1; cases k1
      exact k2 q1
  | loc i =>
    have r : σ[i]? = some (some v) := r
    simp only [Mz.esc] at h
    split at h
    · rename_i xs hx
      cases h
      obtain ⟨k1, k2, k3⟩ := e.fz hx
      exact ⟨k1, k2, (k3 v r).sub fun a q => q.elim (fun q => .inl (hs a q)) .inr, Lk.put fun ys q => by rw [hx] at q; cases q⟩
    · rename_i x hx
      cases h
      obtain ⟨w, k1, k2⟩ := e.val i _ hx
      rw [r] at k1; cases k1
      exact ⟨e, fun _ q => q, k2.sub fun a q => q.elim (fun q => .inl (hs a q)) .inr, Lk.refl⟩
    · cases h
  | bag => cases h
theorem RUL.esc : ∀ {us : List U} {vs : List V} {z z' : Z} {ds : List PyData}, ER K g T σ H z → RUL K g T σ H z us vs → (∀ a, tmps us vs a → ¬ S a) → (∀ a, S a → T a) → escs z us = some (ds, z') →
    ER K g T σ H z' ∧ (∀ a, Ow g σ z'.r a → Ow g σ z.r a) ∧ RpA K (fun a => S a ∨ Ow g σ z'.r a) H ds vs ∧ Lk z.r z'.r
  | [], vs, z, z', ds, e, r, _, _, h => by
    cases h
    have r : vs = [] := r
    subst r
    exact ⟨e, fun _ q => q, RpA.nil, Lk.refl⟩
  | u :: us, vs, z, z', ds, e, r, ht, hs, h => by
    obtain ⟨v, r', rfl, q1, q2, _⟩ := r
    obtain ⟨⟨d, z1⟩, h1, h⟩ := bnd h
    obtain ⟨⟨ds', z2⟩, h2, h⟩ := bnd h
    cases h
    obtain ⟨e1, o1, r1, l1⟩ := RU.esc e q1 (fun a t => ht a (.inl t)) hs h1
    obtain ⟨e2, o2, r2, l2⟩ := RUL.esc e1 (q2.mv e Kp.refl o1 (fun _ h => h) fun _ h => .inl h) (fun a t => ht a (.inr t)) hs h2
    exact ⟨e2, fun a q => o1 a (o2 a q), .cons (r1.sub fun a q => q.elim .inl fun q => .inr (o2 a q)) r2, l1.trans l2⟩
/-- all values of a list kept -/
theorem PostL.esc {z'' : Z} {ds : List PyData} (e0 : ER K g S σ H z) (p : PostL K g S σ H z us z' vs H') (h : escs z' us = some (ds, z'')) :
    PostL K g S σ H z [] z'' [] H' ∧ RpA K (fun a => S a ∨ Ow g σ z''.r a) H' ds vs := by
  obtain ⟨k1, k2, k3, k4⟩ := RUL.esc p.er p.ru (fun a t s => e0.trk a s (p.fr a t)) (fun a s => .inl s) h
  refine ⟨⟨p.kp, fun a q => p.ow a (k2 a q), k1.sub fun a q => q.elim .inl fun q => q.elim, rfl, fun a q => q.elim, p.lk.trans k4⟩, k3⟩
end

/-! ### displays -/
def tupE (l : ML) : MU := fun z => (l z).bind fun p => (escs p.2 p.1).bind fun q => (ifc (decide (q.1.length ≤ sizeLine)) (.d (.tuple q.1), q.2))
def lstE (l : ML) : MU := fun z => (l z).bind fun p => (escs p.2 p.1).bind fun q => (ifc (decide (q.1.length ≤ sizeLine)) (.nw q.1, q.2))
section
variable {X : Cx} {g : Gb} {a b c : Expr} {es : List Expr} {f f1 f2 f3 : MU} {fl : ML} {pos : Pos}
theorem da_nil : PA X [] (TAf X.K g nilE) := by
  refine paI pa_nil fun σ H Q h => ?_
  obtain ⟨S, z, us, z', e, h, q⟩ := h
  cases h
  exact q [] H (.nil e)
theorem da_cons (ha : PE X a (TEf X.K g f)) (hr : PA X es (TAf X.K g fl)) (hs : starEach (a :: es) X.env = (false, eval a X.env) :: starEach es X.env) : PA X (a :: es) (TAf X.K g (consE f fl)) := by
  refine paI (pa_cons ha hr hs) fun σ H Q h => ?_
  obtain ⟨S, z, us, z', e, h, q⟩ := h
  obtain ⟨⟨u1, z1⟩, h1, h⟩ := bnd h
  obtain ⟨⟨us', z2⟩, h2, h⟩ := bnd h
  cases h
  exact ⟨S, z, u1, z1, e, h1, fun v1 H1 p1 => ⟨_, z1, us', z2, p1.er, h2, fun vs H2 p2 => q _ _ (.cons p1 p2)⟩⟩
theorem de_tup {k : Nat} (h : PA X es (TAf X.K g fl)) : PE X (.Tuple es k pos) (TEf X.K g (tupE fl)) := by
  refine peI (pe_tup h) fun σ H Q h => ?_
  obtain ⟨S, z, u, z', e, h, q⟩ := h
  obtain ⟨⟨us, z1⟩, h1, h⟩ := bnd h
  obtain ⟨⟨ds, z2⟩, h2, h⟩ := bnd h
  obtain ⟨c, h⟩ := ifc_eq h
  cases h
  refine ⟨S, z, us, z1, e, h1, fun vs H1 p => ?_⟩
  obtain ⟨k1, k2⟩ := p.esc e h2
  refine ⟨by rw [k2.length]; exact of_decide_eq_true c, fun a ha => q _ _ (Post.fin (w := .d (.tuple ds)) k1 (Ext.upd ha) (rw_tup ha k2))⟩
theorem de_lst (h : PA X es (TAf X.K g fl)) : PE X (.List es pos) (TEf X.K g (lstE fl)) := by
  refine peI (pe_lst h) fun σ H Q h => ?_
  obtain ⟨S, z, u, z', e, h, q⟩ := h
  obtain ⟨⟨us, z1⟩, h1, h⟩ := bnd h
  obtain ⟨⟨ds, z2⟩, h2, h⟩ := bnd h
  obtain ⟨c, h⟩ := ifc_eq h
  cases h
  refine ⟨S, z, us, z1, e, h1, fun vs H1 p => ?_⟩
  obtain ⟨k1, k2⟩ := p.esc e h2
  refine ⟨by rw [k2.length]; exact of_decide_eq_true c, fun a ha => q _ _ (Post.fin (w := .nw ds) k1 (Ext.upd ha) (rw_lst ha k2))⟩

/-! ### subscripts -/
end
end Mz

set_option Elab.async false
set_option linter.all false
set_option maxRecDepth 100000
set_option autoImplicit false
/-! Mz6: subscripts, slices, built-in functions by data. -/
namespace Mz
open PySem PySem.Spec L2
open PyProof.Rows hiding St

/-! ### subscripts -/
def idxS : PyData → PyData → Option R
  | .list ds, .int i => (atI ds i).map R.d
  | .tuple ds, .int i => (atI ds i).map R.d
  | .str x, .int i => (atI x.cps.toList i).bind fun c => ifc (decide (x.length ≤ sizeLine)) (.d (.str ⟨#[c]⟩))
  | _, _ => none
theorem atI_rp {K : PySem.W.Frag} {S : Av} {H : Hp} {ds : List PyData} {vs : List V} {i : Int} {d : PyData} (h : RpA K S H ds vs) (e : atI ds i = some d) : ∃ v, atI vs i = some v ∧ Rp K S H d v := by
  unfold atI at e ⊢
  rw [h.length]
  obtain ⟨j, h1, h2⟩ := bnd e
  obtain ⟨v, h3, h4⟩ := h.get h2
  exact ⟨v, by rw [h1]; exact h3, h4⟩
theorem rule_idx {K : PySem.W.Frag} : Rule2 K (rIx K) idxS := by
  intro S H d1 d2 v1 v2 w Q tr h1 h2 e q
  unfold idxS at e
  split at e
  · rw [rdp_int h2]
    obtain ⟨d, e1, rfl⟩ := Option.map_eq_some_iff.mp e
    obtain ⟨a, xs, rfl, r1, q1⟩ := rdp_lst h1
    obtain ⟨v, k1, k2⟩ := atI_rp q1 e1
    exact .inl ⟨a, xs, _, v, rfl, rfl, .inl (.inl r1), k1, q _ _ Ext.refl k2⟩
  · rw [rdp_int h2]
    obtain ⟨d, e1, rfl⟩ := Option.map_eq_some_iff.mp e
    obtain ⟨a, xs, rfl, r1, q1⟩ := rdp_tup h1
    obtain ⟨v, k1, k2⟩ := atI_rp q1 e1
    exact .inr (.inl ⟨a, xs, _, v, rfl, rfl, r1, k1, q _ _ Ext.refl k2⟩)
  · rw [rdp_int h2, rdp_str h1]
    obtain ⟨c, e1, e2⟩ := bnd e
    obtain ⟨c2, rfl⟩ := ifc_eq e2
    exact .inr (.inr ⟨_, _, c, rfl, rfl, of_decide_eq_true c2, e1, q _ _ Ext.refl (rw_str _)⟩)
  · cases e
def idxE (f g : MU) : MU := fun z => (f z).bind fun p => (g p.2).bind fun q => (rd q.2 p.1).bind fun d1 => (rd q.2 q.1).bind fun d2 => (idxS d1 d2).bind fun w => some (w.u, q.2)

/-! ### slices -/
def cutD (xs : List PyData) (lo hi : Option Int) : List PyData := (xs.drop (HT.sIx xs.length 0 lo)).take (HT.sIx xs.length xs.length hi - HT.sIx xs.length 0 lo)
def slcS : PyData → Option Int → Option Int → Option R
  | .list ds, lo, hi => some (.nw (cutD ds lo hi))
  | .tuple ds, lo, hi => some (.d (.tuple (cutD ds lo hi)))
  | _, _, _ => none
def intD : PyData → Option Int
  | .int i => some i
  | _ => none
def slc0E (f : MU) : MU := fun z => (f z).bind fun p => (rd p.2 p.1).bind fun d => (slcS d none none).bind fun w => some (w.u, p.2)
def slcLE (f l : MU) : MU := fun z => (f z).bind fun p => (l p.2).bind fun q => (rd q.2 p.1).bind fun d => (rd q.2 q.1).bind fun e => (intD e).bind fun i => (slcS d (some i) none).bind fun w => some (w.u, q.2)
def slcHE (f l : MU) : MU := fun z => (f z).bind fun p => (l p.2).bind fun q => (rd q.2 p.1).bind fun d => (rd q.2 q.1).bind fun e => (intD e).bind fun i => (slcS d none (some i)).bind fun w => some (w.u, q.2)
def slcLHE (f l h : MU) : MU := fun z => (f z).bind fun p => (l p.2).bind fun q => (rd q.2 q.1).bind fun e => (intD e).bind fun i => (h q.2).bind fun r => (rd r.2 p.1).bind fun d => (rd r.2 r.1).bind fun e2 => (intD e2).bind fun j => (slcS d (some i) (some j)).bind fun w => some (w.u, r.2)
def rSlX (K : PySem.W.Frag) : V → Option Int → Option Int → Hp → VK → Prop := fun x lo hi H Q => rSlL K x lo hi H Q ∨ rSlA K x lo hi H Q
theorem RpA.cut {K : PySem.W.Frag} {S : Av} {H : Hp} {ds : List PyData} {vs : List V} (h : RpA K S H ds vs) (lo hi : Option Int) : RpA K S H (cutD ds lo hi) (cutV vs lo hi) := by
  unfold cutD cutV
  rw [h.length]
  exact (h.drop _).take _
theorem rule_slc {K : PySem.W.Frag} {S : Av} {H : Hp} {d : PyData} {v : V} {lo hi : Option Int} {w : R} {Q : VK} (tr : tracked S H) (h1 : RdP K S H d v) (e : slcS d lo hi = some w) (q : ∀ v H', Ext H H' → RW K S H H' w v → Q v H') : rSlX K v lo hi H Q := by
  unfold slcS at e
  split at e
  · cases e
    obtain ⟨a, xs, rfl, r1, q1⟩ := rdp_lst h1
    exact .inl ⟨a, xs, rfl, .inl (.inl r1), fun p hp => q _ _ (Ext.upd hp) (rw_lst hp (q1.cut _ _))⟩
  · cases e
    rename_i ds
    obtain ⟨a, xs, rfl, r1, q1⟩ := rdp_tup h1
    refine .inr ⟨a, xs, rfl, r1, fun hw => q _ _ Ext.refl ?_, fun _ p hp => q _ _ (Ext.upd hp) (rw_tup hp (q1.cut _ _))⟩
    show Rp K S H (.tuple _) _
    rw [Rp]
    have : cutD ds lo hi = ds := by
      unfold cutD
      rw [← q1.length, hw.1, hw.2, q1.length]
      simp
    rw [this]
    exact ⟨a, xs, rfl, r1, q1⟩
  · cases e
section
variable {X : Cx} {g : Gb} {a b c : Expr} {es : List Expr} {f f1 f2 f3 : MU} {fl : ML} {pos p2 : Pos}
theorem de_idx (ha : PE X a (TEf X.K g f1)) (hb : PE X b (TEf X.K g f2)) (hs : PlainIx b) : PE X (.Subscript a b pos) (TEf X.K g (idxE f1 f2)) := by
  refine peI (pe_ix ix_seq ha hb hs) fun σ H Q h => ?_
  obtain ⟨S, z, u, z', e, h, q⟩ := h
  obtain ⟨⟨u1, z1⟩, h1, h⟩ := bnd h
  obtain ⟨⟨u2, z2⟩, h2, h⟩ := bnd h
  obtain ⟨d1, r1, h⟩ := bnd h
  obtain ⟨d2, r2, h⟩ := bnd h
  obtain ⟨w, hw, h⟩ := bnd h
  cases h
  refine seq2 e h1 h2 fun v1 v2 H2 p => ?_
  obtain ⟨q1, q2⟩ := p.read2 r1 r2
  exact rule_idx _ _ _ _ _ _ _ _ p.trk q1 q2 hw fun v H' x rw => q v H' (Post.fin p x rw)
theorem intD_eq {d : PyData} {i : Int} (h : intD d = some i) : d = .int i := by
  unfold intD at h
  split at h
  · cases h; rfl
  · cases h
theorem sl_any : SlR X (rSlX X.K) := sl_list.or sl_tupA
theorem de_slc0 (ha : PE X a (TEf X.K g f1)) : PE X (.Subscript a (.Slice none none none p2) pos) (TEf X.K g (slc0E f1)) := by
  refine peI (pe_slice sl_any ha po_none po_none) fun σ H Q h => ?_
  obtain ⟨S, z, u, z', e, h, q⟩ := h
  obtain ⟨⟨u1, z1⟩, h1, h⟩ := bnd h
  obtain ⟨d1, r1, h⟩ := bnd h
  obtain ⟨w, hw, h⟩ := bnd h
  cases h
  refine seq1 e h1 fun v1 H1 p => ?_
  exact rule_slc p.trk (p.read1 r1) hw fun v H' x rw => q v H' (Post.fin p x rw)
theorem de_slcL (ha : PE X a (TEf X.K g f1)) (hb : PE X b (TEf X.K g f2)) : PE X (.Subscript a (.Slice (some b) none none p2) pos) (TEf X.K g (slcLE f1 f2)) := by
  refine peI (pe_slice sl_any ha (po_some hb) po_none) fun σ H Q h => ?_
  obtain ⟨S, z, u, z', e, h, q⟩ := h
  obtain ⟨⟨u1, z1⟩, h1, h⟩ := bnd h
  obtain ⟨⟨u2, z2⟩, h2, h⟩ := bnd h
  obtain ⟨d1, r1, h⟩ := bnd h
  obtain ⟨d2, r2, h⟩ := bnd h
  obtain ⟨i, hi, h⟩ := bnd h
  have hi := intD_eq hi
  obtain ⟨w, hw, h⟩ := bnd h
  cases h
  refine seq2 e h1 h2 fun v1 v2 H2 p => ?_
  obtain ⟨q1, q2⟩ := p.read2 r1 r2
  rw [hi] at q2
  exact ⟨i, rdp_int q2, rule_slc p.trk q1 hw fun v H' x rw => q v H' (Post.fin p x rw)⟩
theorem de_slcH (ha : PE X a (TEf X.K g f1)) (hb : PE X b (TEf X.K g f2)) : PE X (.Subscript a (.Slice none (some b) none p2) pos) (TEf X.K g (slcHE f1 f2)) := by
  refine peI (pe_slice sl_any ha po_none (po_some hb)) fun σ H Q h => ?_
  obtain ⟨S, z, u, z', e, h, q⟩ := h
  obtain ⟨⟨u1, z1⟩, h1, h⟩ := bnd h
  obtain ⟨⟨u2, z2⟩, h2, h⟩ := bnd h
  obtain ⟨d1, r1, h⟩ := bnd h
  obtain ⟨d2, r2, h⟩ := bnd h
  obtain ⟨i, hi, h⟩ := bnd h
  have hi := intD_eq hi
  obtain ⟨w, hw, h⟩ := bnd h
  cases h
  refine seq2 e h1 h2 fun v1 v2 H2 p => ?_
  obtain ⟨q1, q2⟩ := p.read2 r1 r2
  rw [hi] at q2
  exact ⟨i, rdp_int q2, rule_slc p.trk q1 hw fun v H' x rw => q v H' (Post.fin p x rw)⟩
theorem de_slcLH (ha : PE X a (TEf X.K g f1)) (hb : PE X b (TEf X.K g f2)) (hc : PE X c (TEf X.K g f3)) : PE X (.Subscript a (.Slice (some b) (some c) none p2) pos) (TEf X.K g (slcLHE f1 f2 f3)) := by
  refine peI (pe_slice sl_any ha (po_some hb) (po_some hc)) fun σ H Q h => ?_
  obtain ⟨S, z, u, z', e, h, q⟩ := h
  obtain ⟨⟨u1, z1⟩, h1, h⟩ := bnd h
  obtain ⟨⟨u2, z2⟩, h2, h⟩ := bnd h
  obtain ⟨d2, r2, h⟩ := bnd h
  obtain ⟨i, hi, h⟩ := bnd h
  have hi := intD_eq hi
  obtain ⟨⟨u3, z3⟩, h3, h⟩ := bnd h
  obtain ⟨d1, r1, h⟩ := bnd h
  obtain ⟨d3, r3, h⟩ := bnd h
  obtain ⟨j, hj, h⟩ := bnd h
  have hj := intD_eq hj
  obtain ⟨w, hw, h⟩ := bnd h
  cases h
  refine ⟨S, z, u1, z1, e, h1, fun v1 H1 p1 => ⟨_, z1, u2, z2, p1.er, h2, fun v2 H2 p2 => ?_⟩⟩
  have k2 := (PostL.cons p2 (.nil p2.er)).read1 r2
  rw [hi] at k2
  refine ⟨i, rdp_int k2, ⟨_, z2, u3, z3, p2.er, h3, fun v3 H3 p3 => ?_⟩⟩
  have p' := PostL.cons p1 (.cons p2 (.cons p3 (.nil p3.er)))
  have k1 : RdP X.K (fun a => S a ∨ Ow g σ z3.r a) H3 d1 v1 := by
    obtain ⟨x, xs, e0, q1, _⟩ := p'.ru
    cases e0
    exact (q1.read p'.er r1).sub fun a h => h.elim (fun h => .inl (.inl h)) .inr
  have k3 := (PostL.cons p3 (.nil p3.er)).read1 r3
  rw [hj] at k3
  exact ⟨j, rdp_int k3, rule_slc p'.trk k1 hw fun v H' x rw => q v H' (Post.fin p' x rw)⟩
end

/-! ### built-in functions -/
def intsD : List PyData → Option (List Int)
  | [] => some []
  | .int i :: r => (intsD r).map (i :: ·)
  | _ => none
def blsD : List PyData → Option (List Bool)
  | [] => some []
  | .bool i :: r => (blsD r).map (i :: ·)
  | _ => none
def lenS : List PyData → Option R
  | [.list ds] => some (.d (.int ds.length))
  | [.tuple ds] => some (.d (.int ds.length))
  | [.str x] => ifc (decide (x.length ≤ sizeLine)) (.d (.int x.length))
  | [.dict kvs] => some (.d (.int kvs.length))
  | _ => none
def listS : List PyData → Option R
  | [.list ds] => some (.nw ds)
  | [.tuple ds] => some (.nw ds)
  | _ => none
def tupleS : List PyData → Option R
  | [.list ds] => some (.d (.tuple ds))
  | [.tuple ds] => some (.d (.tuple ds))
  | _ => none
def sumS : List PyData → Option R
  | [.list ds] => (intsD ds).map fun ns => .d (.int ns.sum)
  | _ => none
def mmS (f : Int → Int → Int) : List PyData → Option R
  | [.list ds] => (intsD ds).bind fun ns => match ns with
    | [] => none
    | n :: r => some (.d (.int (r.foldl f n)))
  | [.tuple ds] => (intsD ds).bind fun ns => match ns with
    | [] => none
    | n :: r => some (.d (.int (r.foldl f n)))
  | [.int i, .int j] => some (.d (.int (f i j)))
  | _ => none
def sortS : List PyData → Option R
  | [.list ds] => (intsD ds).map fun ns => .nw ((ns.mergeSort).map PyData.int)
  | _ => none
def allS : List PyData → Option R
  | [.list ds] => (blsD ds).map fun bs => .d (.bool (bs.all id))
  | _ => none
def anyS : List PyData → Option R
  | [.list ds] => (blsD ds).map fun bs => .d (.bool (bs.any id))
  | _ => none
def absS : List PyData → Option R
  | [.int i] => some (.d (.int (if i < 0 then -i else i)))
  | _ => none
def intS : List PyData → Option R
  | [.int i] => some (.d (.int i))
  | [.bool b] => some (.d (.int (if b then 1 else 0)))
  | _ => none
def strS : List PyData → Option R
  | [.int i] => ifc (decide (i.natAbs.log2 < 1920)) (.d (.str (toString i)))
  | _ => none
def reprS : List PyData → Option R
  | [d] => ifc (d.showable && decide (d.shown.length ≤ sizeLine) && decide (d.depth ≤ 50)) (.d (.str d.shown))
  | _ => none
section
variable {K : PySem.W.Frag}
theorem rdps1 {S : Av} {H : Hp} {d : PyData} {vs : List V} (h : RdPs K S H [d] vs) : ∃ v, vs = [v] ∧ RdP K S H d v := by
  obtain ⟨v, r, rfl, q, rfl⟩ := h
  exact ⟨v, rfl, q⟩
theorem rdps2 {S : Av} {H : Hp} {d e : PyData} {vs : List V} (h : RdPs K S H [d, e] vs) : ∃ v w, vs = [v, w] ∧ RdP K S H d v ∧ RdP K S H e w := by
  obtain ⟨v, r, rfl, q, w, r', rfl, q2, rfl⟩ := h
  exact ⟨v, w, rfl, q, q2⟩
theorem ints_v {S : Av} {H : Hp} : ∀ {ds : List PyData} {vs : List V} {ns : List Int}, RpA K S H ds vs → intsD ds = some ns → vs = ns.map V.int ∧ ds = ns.map PyData.int
  | [], vs, ns, h, e => by
    rw [RpA] at h
    cases e
    exact ⟨h, rfl⟩
  | .int i :: r, vs, ns, h, e => by
    rw [RpA] at h
    obtain ⟨x, ws, rfl, q1, q2⟩ := h
    rw [Rp] at q1
    obtain ⟨ns', e', rfl⟩ := Option.map_eq_some_iff.mp (show (intsD r).map (i :: ·) = some ns from e)
    obtain ⟨k1, k2⟩ := ints_v q2 e'
    rw [q1, k1, k2]
    exact ⟨rfl, rfl⟩
  | .none :: r, _, _, _, e => nomatch e
  | .bool _ :: r, _, _, _, e => nomatch e
  | .str _ :: r, _, _, _, e => nomatch e
  | .list _ :: r, _, _, _, e => nomatch e
  | .tuple _ :: r, _, _, _, e => nomatch e
  | .dict _ :: r, _, _, _, e => nomatch e
theorem bls_v {S : Av} {H : Hp} : ∀ {ds : List PyData} {vs : List V} {ns : List Bool}, RpA K S H ds vs → blsD ds = some ns → vs = ns.map V.bl ∧ ds = ns.map PyData.bool
  | [], vs, ns, h, e => by
    rw [RpA] at h
    cases e
    exact ⟨h, rfl⟩
  | .bool i :: r, vs, ns, h, e => by
    rw [RpA] at h
    obtain ⟨x, ws, rfl, q1, q2⟩ := h
    rw [Rp] at q1
    obtain ⟨ns', e', rfl⟩ := Option.map_eq_some_iff.mp (show (blsD r).map (i :: ·) = some ns from e)
    obtain ⟨k1, k2⟩ := bls_v q2 e'
    rw [q1, k1, k2]
    exact ⟨rfl, rfl⟩
  | .none :: r, _, _, _, e => nomatch e
  | .int _ :: r, _, _, _, e => nomatch e
  | .str _ :: r, _, _, _, e => nomatch e
  | .list _ :: r, _, _, _, e => nomatch e
  | .tuple _ :: r, _, _, _, e => nomatch e
  | .dict _ :: r, _, _, _, e => nomatch e
theorem rpa_ints {S : Av} {H : Hp} : ∀ ns : List Int, RpA K S H (ns.map PyData.int) (ns.map V.int)
  | [] => RpA.nil
  | n :: ns => .cons (by rw [Rp]) (rpa_ints ns)
end
end Mz

set_option Elab.async false
set_option linter.all false
set_option maxRecDepth 100000
set_option autoImplicit false
/-! Mz7: built-in functions: the rules. -/
namespace Mz
open PySem PySem.Spec L2
open PyProof.Rows hiding St

/-- the built-in functions and types that are called with values -/
inductive Bi where
  | len | list | tuple | sum | max | min | sorted | all | any | abs | int | str | repr
def biS : Bi → List PyData → Option R
  | .len => lenS
  | .list => listS
  | .tuple => tupleS
  | .sum => sumS
  | .max => mmS max
  | .min => mmS min
  | .sorted => sortS
  | .all => allS
  | .any => anyS
  | .abs => absS
  | .int => intS
  | .str => strS
  | .repr => reprS
def Bi.name : Bi → Str
  | .len => "len" | .list => "list" | .tuple => "tuple" | .sum => "sum" | .max => "max" | .min => "min" | .sorted => "sorted" | .all => "all" | .any => "any" | .abs => "abs" | .int => "int" | .str => "str" | .repr => "repr"
def Bi.val : Bi → Value
  | .len => .builtin "len" | .list => .type "list" | .tuple => .type "tuple" | .sum => .builtin "sum" | .max => .builtin "max" | .min => .builtin "min" | .sorted => .builtin "sorted" | .all => .builtin "all" | .any => .builtin "any" | .abs => .builtin "abs" | .int => .type "int" | .str => .type "str" | .repr => .builtin "repr"
theorem Bi.boot (b : Bi) : bootBuiltins b.name = some b.val := by cases b <;> decide +kernel
theorem Bi.nm (b : Bi) : b.name ≠ "__name__" ∧ (b.name == ("__debug__" : Str)) = false := by cases b <;> decide +kernel

/-- what repr asks of the surroundings -/
structure RepOk (X : Cx) : Prop where
  gd : X.A.guards = some []
  un : X.A.units + 65 < cLine
  s1 : ∃ o, X.base.get? sysModules = some o
  cm : X.calm = true

section
variable {X : Cx} {pins : List (Addr × Obj)} {σ : St} {H : Hp} {s : Shared}
mutual
theorem Rp.reads {S : Av} (I : L2.Inv X pins σ H s) : ∀ (d : PyData) (v : V) (u : Value), Rp X.K S H d v → RelV v u → ∃ as, Reads s.heap u d as ∧ ∀ a ∈ as, H a ≠ none
  | .none, _, _, h, r => by rw [Rp] at h; subst h; cases r; exact ⟨_, Reads.none, fun a h => nomatch h⟩
  | .bool b, _, _, h, r => by rw [Rp] at h; subst h; cases r; exact ⟨_, Reads.bool b, fun a h => nomatch h⟩
  | .int i, _, _, h, r => by rw [Rp] at h; subst h; obtain ⟨t, rfl⟩ := r; exact ⟨_, Reads.int i t, fun a h => nomatch h⟩
  | .str x, _, _, h, r => by rw [Rp] at h; subst h; obtain ⟨t, rfl⟩ := r; exact ⟨_, Reads.str x t, fun a h => nomatch h⟩
  | .list ds, _, _, h, r => by
    rw [Rp] at h
    obtain ⟨a, xs, rfl, _, q1, q2⟩ := h
    cases r
    obtain ⟨its, rv, ⟨o, n, ho, hc, _, hd⟩, _⟩ := I.list (SqL.of q1)
    obtain ⟨as, hr, ha⟩ := RpA.reads I ds _ its q2 rv
    refine ⟨_, Reads.list ho hc hd hr, fun b hb => ?_⟩
    rcases List.mem_cons.mp hb with rfl | hb
    · exact trk_of q1
    · exact ha b hb
  | .tuple ds, _, _, h, r => by
    rw [Rp] at h
    obtain ⟨a, xs, rfl, q1, q2⟩ := h
    cases r
    obtain ⟨its, rv, ⟨o, ho, hc, n, hd⟩, _⟩ := I.tuple q1
    obtain ⟨as, hr, ha⟩ := RpA.reads I ds _ its q2 rv
    exact ⟨_, Reads.tuple ho hc hd hr, ha⟩
  | .dict kvs, _, _, h, r => by
    rw [Rp] at h
    obtain ⟨a, es, rfl, _, q1, q2⟩ := h
    cases r
    obtain ⟨_, _, vs, kv, o, ents, ep, ho, ⟨hc, _⟩, hd, _, pr, _⟩ := I.hok a _ q1
    obtain ⟨as, bs, h1, h2, h3⟩ := RpK.reads I kvs es vs ents.toList q2 kv pr
    refine ⟨_, Reads.dict ho hc hd h1 h2, fun b hb => ?_⟩
    rcases List.mem_cons.mp (List.cons_append ▸ hb) with rfl | hb
    · exact trk_of q1
    · exact h3 b hb
theorem RpA.reads {S : Av} (I : L2.Inv X pins σ H s) : ∀ (ds : List PyData) (vs : List V) (us : List Value), RpA X.K S H ds vs → Vals vs us → ∃ as, ReadsAll s.heap us ds as ∧ ∀ a ∈ as, H a ≠ none
  | [], _, _, h, r => by rw [RpA] at h; subst h; cases r; exact ⟨_, ReadsAll.nil, fun a h => nomatch h⟩
  | d :: ds, _, _, h, r => by
    rw [RpA] at h
    obtain ⟨x, xs, rfl, q1, q2⟩ := h
    cases r with
    | cons r1 r2 =>
      obtain ⟨as, k1, k2⟩ := Rp.reads I d _ _ q1 r1
      obtain ⟨bs, k3, k4⟩ := RpA.reads I ds _ _ q2 r2
      exact ⟨_, ReadsAll.cons k1 k3, fun a ha => (List.mem_append.mp ha).elim (k2 a) (k4 a)⟩
theorem RpK.reads {S : Av} (I : L2.Inv X pins σ H s) : ∀ (kvs : List (PyData × PyData)) (es : List (Key × V)) (vs : List (Key × Value)) (ents : List DictEntry), RpK X.K S H kvs es → KV es vs → Pairs (mixKind X.prog X.w) ents vs →
    ∃ as bs, ReadsAll s.heap (ents.map (·.key)) (kvs.map (·.1)) as ∧ ReadsAll s.heap (ents.map (·.val)) (kvs.map (·.2)) bs ∧ ∀ a ∈ as ++ bs, H a ≠ none
  | [], _, _, _, h, r, p => by
    rw [RpK] at h; subst h; cases r; cases p
    exact ⟨_, _, ReadsAll.nil, ReadsAll.nil, fun a h => nomatch h⟩
  | (k, d) :: kvs, _, _, _, h, r, p => by
    rw [RpK] at h
    obtain ⟨e, es, rfl, q0, q1, q2⟩ := h
    cases r with
    | cons r1 r2 =>
      cases p with
      | cons p1 p2 p3 =>
        rename_i kv vs ent ents
        obtain ⟨r3, r4⟩ := r1
        obtain ⟨as, k1, k2⟩ := Rp.reads I d _ _ q1 r4
        obtain ⟨as', bs', k3, k4, k5⟩ := RpK.reads I kvs es vs ents q2 r2 p3
        have kr : ReadsAll s.heap (ent.key :: ents.map (·.key)) (k :: kvs.map (·.1)) ([] ++ as') := by
          refine ReadsAll.cons ?_ k3
          have p1 : keyIs kv.1 ent.key = true := p1
          rw [← r3] at p1
          rcases keyIs_shape p1 with ⟨i, t, e1, e2⟩ | ⟨x, t, e1, e2⟩
          · rw [e2]
            rw [e1] at q0
            cases k <;> first | cases q0 | skip
            exact Reads.int _ _
          · rw [e2]
            rw [e1] at q0
            cases k <;> first | cases q0 | skip
            exact Reads.str _ _
        refine ⟨_, _, kr, ReadsAll.cons (by show Reads s.heap ent.val d as; rw [p2]; exact k1) k4, fun a ha => ?_⟩
        simp only [List.nil_append, List.mem_append] at ha
        rcases ha with ha | ha | ha
        · exact k5 a (List.mem_append_left _ ha)
        · exact k2 a ha
        · exact k5 a (List.mem_append_right _ ha)
end
end

section
variable {X : Cx}
theorem alike_ints (ns : List Int) : PySem.W.AlikeAll (ns.map PyData.int) := by
  refine ⟨fun x hx y hy => ?_, fun x hx => ?_⟩
  · obtain ⟨i, _, rfl⟩ := List.mem_map.mp hx
    obtain ⟨j, _, rfl⟩ := List.mem_map.mp hy
    simp only [PySem.W.alike]
  · obtain ⟨i, _, rfl⟩ := List.mem_map.mp hx
    exact fun z => nomatch z
theorem depth_ints : ∀ ns : List Int, PyData.depthAll (ns.map PyData.int) = 0
  | [] => by simp [PyData.depthAll]
  | n :: ns => by simp [PyData.depthAll, PyData.depth, depth_ints ns]
theorem reads_ints {h : Heap} : ∀ {ns : List Int} {us : List Value}, Vals (ns.map V.int) us → ReadsAll h us (ns.map PyData.int) []
  | [], us, r => by
    cases r
    exact ReadsAll.nil
  | n :: ns, us, r => by
    cases r with
    | cons r1 r2 =>
      obtain ⟨t, rfl⟩ := r1
      exact ReadsAll.cons (Reads.int n t) (reads_ints r2)
def rMM (K : PySem.W.Frag) (f : Int → Int → Int) : List V → Hp → VK → Prop := fun xs H Q => ∃ (a : Addr) (n : Int) (r : List Int), xs = [V.ref a] ∧ (SqL K H a ((n :: r).map V.int) ∨ SqT K H a ((n :: r).map V.int)) ∧ Q (.int (r.foldl f n)) H
theorem cr_maxA (hx : RepOk X) : CallR X (.builtin "max") (rMM X.K max) := by
  intro pins s σ H xs us Q I r h
  obtain ⟨a, n, ns, rfl, hq, q⟩ := h
  cases Vals.ref1 r
  have hh := I.ok.hd hx.cm
  have fin : ∀ (i : Nat) v h' tk bs, Reads h' v (PySem.W.maxD (.int n) (ns.map PyData.int)) bs → (∀ b o, s.heap.get? b = some o → h'.get? b = some o) → EP X pins σ Q v { s with heap := h', toks := tk } := fun i v h' tk bs hr hk => by
    rw [PySem.W.maxD_ints] at hr
    cases hr
    exact ⟨.int _, H, I.kept hk, ⟨_, rfl⟩, q⟩
  have hu : X.A.units + 1 + PyData.depthAll (PyData.int n :: ns.map PyData.int) < cLine := by
    have e := depth_ints (n :: ns)
    rw [List.map_cons] at e
    rw [e]
    have := hx.un
    omega
  rcases hq with hq | hq
  · obtain ⟨its, rv, hl, _⟩ := I.list hq
    exact PySem.W.max_list_data hh hl.isList (reads_ints (ns := n :: ns) rv) (alike_ints (n :: ns)) hu fun i v h' tk bs _ hr hk => fin i v h' tk bs hr hk
  · obtain ⟨its, rv, hl, _⟩ := I.tuple hq
    exact PySem.W.max_tuple_data hh hl (reads_ints (ns := n :: ns) rv) (alike_ints (n :: ns)) hu fun i v h' tk bs _ hr hk => fin i v h' tk bs hr hk
theorem cr_minA (hx : RepOk X) : CallR X (.builtin "min") (rMM X.K min) := by
  intro pins s σ H xs us Q I r h
  obtain ⟨a, n, ns, rfl, hq, q⟩ := h
  cases Vals.ref1 r
  have hh := I.ok.hd hx.cm
  have fin : ∀ (i : Nat) v h' tk bs, Reads h' v (PySem.W.minD (.int n) (ns.map PyData.int)) bs → (∀ b o, s.heap.get? b = some o → h'.get? b = some o) → EP X pins σ Q v { s with heap := h', toks := tk } := fun i v h' tk bs hr hk => by
    rw [PySem.W.minD_ints] at hr
    cases hr
    exact ⟨.int _, H, I.kept hk, ⟨_, rfl⟩, q⟩
  have hu : X.A.units + 1 + PyData.depthAll (PyData.int n :: ns.map PyData.int) < cLine := by
    have e := depth_ints (n :: ns)
    rw [List.map_cons] at e
    rw [e]
    have := hx.un
    omega
  rcases hq with hq | hq
  · obtain ⟨its, rv, hl, _⟩ := I.list hq
    exact PySem.W.min_list_data hh hl.isList (reads_ints (ns := n :: ns) rv) (alike_ints (n :: ns)) hu fun i v h' tk bs _ hr hk => fin i v h' tk bs hr hk
  · obtain ⟨its, rv, hl, _⟩ := I.tuple hq
    exact PySem.W.min_tuple_data hh hl (reads_ints (ns := n :: ns) rv) (alike_ints (n :: ns)) hu fun i v h' tk bs _ hr hk => fin i v h' tk bs hr hk
theorem rule_mm {K : PySem.W.Frag} (f : Int → Int → Int) (f2 : Int → Int → Int) (hf : ∀ i j, f2 i j = f i j) : RuleN K (fun xs H Q => rMM K f xs H Q ∨ ∃ i j, xs = [.int i, .int j] ∧ Q (.int (f2 i j)) H) (mmS f) := by
  intro S H ds vs w Q tr h e q
  unfold mmS at e
  split at e
  · obtain ⟨v, rfl, h'⟩ := rdps1 h
    obtain ⟨ns, e1, e2⟩ := bnd e
    obtain ⟨a, xs, rfl, r1, q1⟩ := rdp_lst h'
    obtain ⟨k1, k2⟩ := ints_v q1 e1
    cases ns with
    | nil => cases e2
    | cons n r =>
      cases e2
      exact .inl ⟨a, n, r, rfl, .inl (.inl (.inl (by rw [r1, k1]))), q _ _ Ext.refl (rw_int _)⟩
  · obtain ⟨v, rfl, h'⟩ := rdps1 h
    obtain ⟨ns, e1, e2⟩ := bnd e
    obtain ⟨a, xs, rfl, r1, q1⟩ := rdp_tup h'
    obtain ⟨k1, k2⟩ := ints_v q1 e1
    cases ns with
    | nil => cases e2
    | cons n r =>
      cases e2
      exact .inl ⟨a, n, r, rfl, .inr (k1 ▸ r1), q _ _ Ext.refl (rw_int _)⟩
  · obtain ⟨v, w, rfl, h1, h2⟩ := rdps2 h
    cases e
    rw [rdp_int h1, rdp_int h2]
    exact .inr ⟨_, _, rfl, by rw [hf]; exact q _ _ Ext.refl (rw_int _)⟩
  · cases e
theorem cr_repr (hx : RepOk X) : CallR X (.builtin "repr") (fun xs H Q => ∃ S d v, xs = [v] ∧ Rp X.K S H d v ∧ d.showable = true ∧ d.shown.length ≤ sizeLine ∧ d.depth ≤ 50 ∧ Q (.str d.shown) H) := by
  intro pins s σ H xs us Q I r h
  obtain ⟨S, d, v, rfl, hr, h1, h2, h3, q⟩ := h
  obtain ⟨u, rfl, ru⟩ := vals1 r
  obtain ⟨as, k1, k2⟩ := Rp.reads I d v u hr ru
  have hsm : sysModules ∉ as := fun hm => by
    obtain ⟨o, ho⟩ := hx.s1
    exact k2 _ hm (I.bs _ _ ho).2
  cases u with
  | ref a =>
    refine repr_of_reads' k1 h1 (fun _ => hsm) hx.gd (by have := hx.un; omega) (fun _ _ e => e) (fun h' u tk hk => ⟨.str _, H, I.kept hk, ⟨_, rfl⟩, q⟩) h2
  | none => cases k1; exact P.repr_of_none ⟨.str _, H, I.tok _, ⟨_, rfl⟩, q⟩
  | bool b => cases k1; exact P.repr_of_bool ⟨.str _, H, I.tok _, ⟨_, rfl⟩, q⟩
  | int i t => cases k1; exact P.repr_of_int (of_decide_eq_true (by simpa [PyData.showable] using h1)) ⟨.str _, H, I.tok _, ⟨_, rfl⟩, q⟩
  | str x t => cases k1; exact P.repr_of_str ⟨.str _, H, I.tok _, ⟨_, rfl⟩, q⟩ h2
  | _ => cases k1
theorem RdP.rp0 {K : PySem.W.Frag} {S : Av} {H : Hp} {d : PyData} {v : V} (h : RdP K S H d v) : Rp K (fun _ => False) H d v := by
  cases d with
  | list ds =>
    obtain ⟨a, vs, rfl, q1, q2⟩ := h
    rw [Rp]
    exact ⟨a, vs, rfl, id, q1, q2.sub fun _ z => z.elim⟩
  | _ => exact Rp.sub (show Rp K S H _ v from h) fun _ z => z.elim
theorem rule_repr {K : PySem.W.Frag} : RuleN K (fun xs H Q => ∃ S d v, xs = [v] ∧ Rp K S H d v ∧ d.showable = true ∧ d.shown.length ≤ sizeLine ∧ d.depth ≤ 50 ∧ Q (.str d.shown) H) reprS := by
  intro S H ds vs w Q tr h e q
  unfold reprS at e
  split at e
  · obtain ⟨v, rfl, h'⟩ := rdps1 h
    obtain ⟨c, rfl⟩ := ifc_eq e
    rw [Bool.and_eq_true, Bool.and_eq_true] at c
    exact ⟨_, _, v, rfl, h'.rp0, c.1.1, of_decide_eq_true c.1.2, of_decide_eq_true c.2, q _ _ Ext.refl (rw_str _)⟩
  · cases e
theorem rule_len {K : PySem.W.Frag} : RuleN K (fun xs H Q => (∃ p ys, xs = [.ref p] ∧ (SqL K H p ys ∨ SqT K H p ys) ∧ Q (.int ys.length) H) ∨ ((∃ z, xs = [.str z] ∧ z.length ≤ sizeLine ∧ Q (.int z.length) H) ∨ ∃ a kvs, xs = [V.ref a] ∧ H a = some (.dK kvs) ∧ Q (.int kvs.length) H)) lenS := by
  intro S H ds vs w Q tr h e q
  unfold lenS at e
  split at e
  · obtain ⟨v, rfl, h'⟩ := rdps1 h
    cases e
    obtain ⟨a, xs, rfl, r1, q1⟩ := rdp_lst h'
    refine .inl ⟨a, xs, rfl, .inl (SqL.of r1), ?_⟩
    rw [q1.length]
    exact q _ _ Ext.refl (rw_int _)
  · obtain ⟨v, rfl, h'⟩ := rdps1 h
    cases e
    obtain ⟨a, xs, rfl, r1, q1⟩ := rdp_tup h'
    refine .inl ⟨a, xs, rfl, .inr r1, ?_⟩
    rw [q1.length]
    exact q _ _ Ext.refl (rw_int _)
  · obtain ⟨v, rfl, h'⟩ := rdps1 h
    obtain ⟨c, rfl⟩ := ifc_eq e
    rw [rdp_str h']
    exact .inr (.inl ⟨_, rfl, of_decide_eq_true c, q _ _ Ext.refl (rw_int _)⟩)
  · obtain ⟨v, rfl, h'⟩ := rdps1 h
    cases e
    have h' : Rp K S H _ v := h'
    rw [Rp] at h'
    obtain ⟨a, es, rfl, _, r1, q1⟩ := h'
    refine .inr (.inr ⟨a, es, rfl, r1, ?_⟩)
    have hl : ∀ {kvs : List (PyData × PyData)} {es : List (Key × V)}, RpK K S H kvs es → es.length = kvs.length := by
      intro kvs
      induction kvs with
      | nil => intro es h; rw [RpK] at h; rw [h]; rfl
      | cons x xs ih =>
        intro es h
        obtain ⟨k, d⟩ := x
        rw [RpK] at h
        obtain ⟨e, r, rfl, _, _, q2⟩ := h
        rw [List.length_cons, List.length_cons, ih q2]
    rw [hl q1]
    exact q _ _ Ext.refl (rw_int _)
  · cases e
theorem rule_list {K : PySem.W.Frag} : RuleN K (fun xs H Q => ∃ p ys, xs = [.ref p] ∧ (SqL K H p ys ∨ SqT K H p ys) ∧ ∀ l, H l = none → Q (.ref l) (upd H l (.lst ys))) listS := by
  intro S H ds vs w Q tr h e q
  unfold listS at e
  split at e
  · obtain ⟨v, rfl, h'⟩ := rdps1 h
    cases e
    obtain ⟨a, xs, rfl, r1, q1⟩ := rdp_lst h'
    exact ⟨a, xs, rfl, .inl (SqL.of r1), fun p hp => q _ _ (Ext.upd hp) (rw_lst hp q1)⟩
  · obtain ⟨v, rfl, h'⟩ := rdps1 h
    cases e
    obtain ⟨a, xs, rfl, r1, q1⟩ := rdp_tup h'
    exact ⟨a, xs, rfl, .inr r1, fun p hp => q _ _ (Ext.upd hp) (rw_lst hp q1)⟩
  · cases e
theorem rule_tuple {K : PySem.W.Frag} : RuleN K (fun xs H Q => ∃ p ys, xs = [.ref p] ∧ ((SqL K H p ys ∧ ∀ l, H l = none → Q (.ref l) (upd H l (.tup ys))) ∨ (SqT K H p ys ∧ Q (.ref p) H))) tupleS := by
  intro S H ds vs w Q tr h e q
  unfold tupleS at e
  split at e
  · obtain ⟨v, rfl, h'⟩ := rdps1 h
    cases e
    obtain ⟨a, xs, rfl, r1, q1⟩ := rdp_lst h'
    exact ⟨a, xs, rfl, .inl ⟨SqL.of r1, fun p hp => q _ _ (Ext.upd hp) (rw_tup hp q1)⟩⟩
  · obtain ⟨v, rfl, h'⟩ := rdps1 h
    cases e
    obtain ⟨a, xs, rfl, r1, q1⟩ := rdp_tup h'
    refine ⟨a, xs, rfl, .inr ⟨r1, q _ _ Ext.refl ?_⟩⟩
    show Rp K S H _ _
    rw [Rp]
    exact ⟨a, xs, rfl, r1, q1⟩
  · cases e
theorem rule_sum {K : PySem.W.Frag} : RuleN K (rSum K) sumS := by
  intro S H ds vs w Q tr h e q
  unfold sumS at e
  split at e
  · obtain ⟨v, rfl, h'⟩ := rdps1 h
    obtain ⟨ns, e1, rfl⟩ := Option.map_eq_some_iff.mp e
    obtain ⟨a, xs, rfl, r1, q1⟩ := rdp_lst h'
    obtain ⟨k1, k2⟩ := ints_v q1 e1
    exact ⟨a, ns, rfl, SqL.of (k1 ▸ r1), q _ _ Ext.refl (rw_int _)⟩
  · cases e
theorem rule_sort {K : PySem.W.Frag} : RuleN K (rSortedI K) sortS := by
  intro S H ds vs w Q tr h e q
  unfold sortS at e
  split at e
  · obtain ⟨v, rfl, h'⟩ := rdps1 h
    obtain ⟨ns, e1, rfl⟩ := Option.map_eq_some_iff.mp e
    obtain ⟨a, xs, rfl, r1, q1⟩ := rdp_lst h'
    obtain ⟨k1, k2⟩ := ints_v q1 e1
    refine ⟨a, ns, rfl, SqL.of (k1 ▸ r1), fun ns' p hp hs hn => ?_⟩
    have e : ns' = ns.mergeSort := by
      refine (hp.trans (List.mergeSort_perm ns _).symm).eq_of_pairwise (fun a b _ _ h1 h2 => Int.le_antisymm h1 h2) hs ?_
      refine (List.pairwise_mergeSort (le := fun a b => decide (a ≤ b)) (fun a b c h1 h2 => ?_) (fun a b => ?_) ns).imp fun h => of_decide_eq_true h
      · exact decide_eq_true (Int.le_trans (of_decide_eq_true h1) (of_decide_eq_true h2))
      · rcases Int.le_total a b with h | h
        · simp [h]
        · simp [h]
    rw [e]
    exact q _ _ (Ext.upd hn) (rw_lst hn (rpa_ints _))
  · cases e
theorem rule_all {K : PySem.W.Frag} : RuleN K (rAll K) allS := by
  intro S H ds vs w Q tr h e q
  unfold allS at e
  split at e
  · obtain ⟨v, rfl, h'⟩ := rdps1 h
    obtain ⟨ns, e1, rfl⟩ := Option.map_eq_some_iff.mp e
    obtain ⟨a, xs, rfl, r1, q1⟩ := rdp_lst h'
    obtain ⟨k1, k2⟩ := bls_v q1 e1
    exact ⟨a, ns, rfl, SqL.of (k1 ▸ r1), q _ _ Ext.refl (rw_bl _)⟩
  · cases e
theorem rule_any {K : PySem.W.Frag} : RuleN K (rAny K) anyS := by
  intro S H ds vs w Q tr h e q
  unfold anyS at e
  split at e
  · obtain ⟨v, rfl, h'⟩ := rdps1 h
    obtain ⟨ns, e1, rfl⟩ := Option.map_eq_some_iff.mp e
    obtain ⟨a, xs, rfl, r1, q1⟩ := rdp_lst h'
    obtain ⟨k1, k2⟩ := bls_v q1 e1
    exact ⟨a, ns, rfl, SqL.of (k1 ▸ r1), q _ _ Ext.refl (rw_bl _)⟩
  · cases e
theorem rule_abs {K : PySem.W.Frag} : RuleN K (fun xs H Q => ∃ i, xs = [.int i] ∧ Q (.int (if i < 0 then -i else i)) H) absS := by
  intro S H ds vs w Q tr h e q
  unfold absS at e
  split at e
  · obtain ⟨v, rfl, h'⟩ := rdps1 h
    cases e
    rw [rdp_int h']
    exact ⟨_, rfl, q _ _ Ext.refl (rw_int _)⟩
  · cases e
theorem rule_int {K : PySem.W.Frag} : RuleN K (fun xs H Q => (∃ i, xs = [.int i] ∧ Q (.int i) H) ∨ ∃ k, xs = [.bl k] ∧ Q (.int (if k then 1 else 0)) H) intS := by
  intro S H ds vs w Q tr h e q
  unfold intS at e
  split at e
  · obtain ⟨v, rfl, h'⟩ := rdps1 h
    cases e
    rw [rdp_int h']
    exact .inl ⟨_, rfl, q _ _ Ext.refl (rw_int _)⟩
  · obtain ⟨v, rfl, h'⟩ := rdps1 h
    cases e
    rw [rdp_bl h']
    exact .inr ⟨_, rfl, q _ _ Ext.refl (rw_int _)⟩
  · cases e
theorem rule_str {K : PySem.W.Frag} : RuleN K (fun xs H Q => ∃ i, xs = [.int i] ∧ i.natAbs.log2 < 1920 ∧ Q (.str (toString i)) H) strS := by
  intro S H ds vs w Q tr h e q
  unfold strS at e
  split at e
  · obtain ⟨v, rfl, h'⟩ := rdps1 h
    obtain ⟨c, rfl⟩ := ifc_eq e
    rw [rdp_int h']
    exact ⟨_, rfl, of_decide_eq_true c, q _ _ Ext.refl (rw_str _)⟩
  · cases e
theorem bi_any (hx : RepOk X) (b : Bi) : ∃ r, CallR X b.val r ∧ RuleN X.K r (biS b) := by
  cases b
  case len => exact ⟨_, call_len_seq.or (call_len_str.or call_lenD), rule_len⟩
  case list => exact ⟨_, call_list_of, rule_list⟩
  case tuple => exact ⟨_, call_tuple_of, rule_tuple⟩
  case sum => exact ⟨_, cr_sum hx.cm, rule_sum⟩
  case max => exact ⟨_, (cr_maxA hx).or (call_max2 hx.cm), rule_mm max (fun i j => if j > i then j else i) fun i j => by rw [Int.max_def]; split <;> split <;> omega⟩
  case min => exact ⟨_, (cr_minA hx).or (call_min2 hx.cm), rule_mm min (fun i j => if j < i then j else i) fun i j => by rw [Int.min_def]; split <;> split <;> omega⟩
  case sorted => exact ⟨_, cr_sortedI, rule_sort⟩
  case all => exact ⟨_, cr_all hx.cm, rule_all⟩
  case any => exact ⟨_, cr_any hx.cm, rule_any⟩
  case abs => exact ⟨_, call_abs, rule_abs⟩
  case int => exact ⟨_, call_int1, rule_int⟩
  case str => exact ⟨_, call_str_int, rule_str⟩
  case repr => exact ⟨_, cr_repr hx, rule_repr⟩
end
end Mz

set_option Elab.async false
set_option linter.all false
set_option maxRecDepth 100000
set_option autoImplicit false
/-! Mz8: calls of built-ins, isinstance, methods of one's own lists, list and tuple of a range. -/
namespace Mz
open PySem PySem.Spec L2
open PyProof.Rows hiding St

def biE (b : Bi) (l : ML) : MU := fun z => (l z).bind fun p => (rds p.2 p.1).bind fun ds => (biS b ds).bind fun w => some (w.u, p.2)
/-- the built-in types that isinstance is asked with -/
inductive Ty where
  | int | bool | str | tuple | list | dict
def Ty.s : Ty → String
  | .int => "int" | .bool => "bool" | .str => "str" | .tuple => "tuple" | .list => "list" | .dict => "dict"
def tyD : PyData → String
  | .none => "NoneType" | .bool _ => "bool" | .int _ => "int" | .str _ => "str" | .list _ => "list" | .tuple _ => "tuple" | .dict _ => "dict"
def isiD : Ty → PyData → Bool
  | .int, .int _ => true
  | .int, .bool _ => true
  | .bool, .bool _ => true
  | .str, .str _ => true
  | .tuple, .tuple _ => true
  | .list, .list _ => true
  | .dict, .dict _ => true
  | _, _ => false
theorem kit_isi (T : Ty) (d : PyData) : kitB (tyD d) T.s = some (isiD T d) := by
  cases T <;> cases d <;> (show kitB _ _ = some _; simp only [tyD, Ty.s, isiD]; decide +kernel)
def isiE (T : Ty) (f : MU) : MU := fun z => (f z).bind fun p => (rd p.2 p.1).bind fun d => some (.d (.bool (isiD T d)), p.2)
section
variable {X : Cx} {g : Gb} {a b c : Expr} {es : List Expr} {f f1 f2 f3 : MU} {fl : ML} {pos p : Pos}
theorem de_bi (hx : RepOk X) (b : Bi) (hg : Gl X b.name) (hm : X.mg b.name = none) (ha : PA X (a :: es) (TAf X.K g fl))
    (he : starEach (a :: es) X.env = (false, eval a X.env) :: starEach es X.env) (hpl : (backTo pos (starEach es X.env)).any (·.1) = false) : PE X (.Call (.Name b.name p) (a :: es) [] pos) (TEf X.K g (biE b fl)) := by
  obtain ⟨r, hc, hr⟩ := bi_any hx b
  have go : PE X (.Call (.Name b.name p) (a :: es) [] pos) (tCB r (TAf X.K g fl)) := by
    have h1 := b.boot
    have h2 := b.nm
    cases b
    all_goals first
      | exact pe_callB hc hg hm h1 ha h2.1 h2.2 he hpl
      | exact pe_callTy hc hg hm h1 ha h2.1 h2.2 he hpl
  refine peI go fun σ H Q h => ?_
  obtain ⟨S, z, u, z', e, h, q⟩ := h
  obtain ⟨⟨us, z1⟩, h1, h⟩ := bnd h
  obtain ⟨ds, r1, h⟩ := bnd h
  obtain ⟨w, hw, h⟩ := bnd h
  cases h
  refine ⟨S, z, us, z1, e, h1, fun vs H1 p => ?_⟩
  exact hr _ _ _ _ _ _ p.trk (p.read r1) hw fun v H' x rw => q v H' (Post.fin p x rw)
theorem tyx_of {K : PySem.W.Frag} {S : Av} {H : Hp} {d : PyData} {v : V} (h : RdP K S H d v) : TyX K H v (.type (tyD d)) := by
  cases d with
  | none => rw [rdp_non h]; exact .base .non
  | bool b => rw [rdp_bl h]; exact .base (.bl b)
  | int b => rw [rdp_int h]; exact .base (.int b)
  | str b => rw [rdp_str h]; exact .base (.str b)
  | list ds => obtain ⟨a, xs, rfl, h, _⟩ := h; exact .base (.lst h)
  | tuple ds =>
    obtain ⟨a, xs, rfl, h, _⟩ := rdp_tup h
    rcases h with (h | ⟨o, h⟩) | ⟨o, its, n, h1, h2, _⟩
    · exact .base (.tup h)
    · exact .fTuple h
    · exact .kTuple h1 h2
  | dict ds =>
    have h : Rp K S H _ v := h
    rw [Rp] at h
    obtain ⟨a, xs, rfl, _, h, _⟩ := h
    exact .base (.dK h)
theorem Ty.boot (T : Ty) : bootBuiltins (Str.ofString T.s) = some (.type T.s) := by cases T <;> decide +kernel
theorem Ty.nm (T : Ty) : Str.ofString T.s ≠ "__name__" ∧ (Str.ofString T.s == ("__debug__" : Str)) = false := by cases T <;> decide +kernel
theorem de_isi (T : Ty) (hg : Gl X "isinstance") (hm : X.mg "isinstance" = none) (hg2 : Gl X (Str.ofString T.s)) (hm2 : X.mg (Str.ofString T.s) = none) (ha : PE X a (TEf X.K g f)) {p2 : Pos}
    (hs : starEach (a :: [.Name (Str.ofString T.s) p2]) X.env = (false, eval a X.env) :: starEach [.Name (Str.ofString T.s) p2] X.env) : PE X (.Call (.Name "isinstance" p) [a, .Name (Str.ofString T.s) p2] [] pos) (TEf X.K g (isiE T f)) := by
  have hb : PE X (.Name (Str.ofString T.s) p2) (tC (.ty T.s)) := pe_bltn hg2 hm2 T.boot rfl T.nm.1 T.nm.2
  refine peI (pe_callB call_isi hg hm (by decide +kernel) (pa_cons ha (pa_cons hb pa_nil rfl) hs) (by decide +kernel) (by decide +kernel) hs rfl) fun σ H Q h => ?_
  obtain ⟨S, z, u, z', e, h, q⟩ := h
  obtain ⟨⟨u1, z1⟩, h1, h⟩ := bnd h
  obtain ⟨d, r1, h⟩ := bnd h
  cases h
  refine seq1 e h1 fun v1 H1 p => ?_
  exact ⟨v1, .ty T.s, _, .type T.s, _, rfl, .ty _, tyx_of (p.read1 r1), kit_ty (kit_isi T d), q _ _ (p.ans _)⟩

/-! ### list, tuple of a range -/
def rgD (a b : Int) : List PyData := (List.range (b - a).toNat).map fun i => PyData.int (a + (i : Nat))
theorem rpa_rg {K : PySem.W.Frag} {S : Av} {H : Hp} (a b : Int) : RpA K S H (rgD a b) (rgV a b) := by
  unfold rgD rgV
  refine RpA.of_get (by simp) fun i d v h1 h2 => ?_
  rw [List.getElem?_map] at h1 h2
  obtain ⟨j, e1, rfl⟩ := Option.map_eq_some_iff.mp h1
  rw [e1] at h2
  cases h2
  rw [Rp]
def okRg (a b : Int) : Bool := decide (-(2 ^ 62) ≤ a) && decide (a < 2 ^ 62) && decide (-(2 ^ 62) ≤ b) && decide (b < 2 ^ 62) && decide ((b - a).toNat ≤ 2 ^ 24)
theorem okRg_ok {a b : Int} (h : okRg a b = true) : RgOk a b := by
  unfold okRg at h
  simp only [Bool.and_eq_true, decide_eq_true_eq] at h
  exact ⟨h.1.1.1.1, h.1.1.1.2, h.1.1.2, h.1.2, h.2⟩
def rg1E (k : List PyData → R) (f : MU) : MU := fun z => (f z).bind fun p => (rd p.2 p.1).bind fun d => (intD d).bind fun n => (ifc (okRg 0 n) (k (rgD 0 n))).bind fun w => some (w.u, p.2)
def rg2E (k : List PyData → R) (f f' : MU) : MU := fun z => (f z).bind fun p => (f' p.2).bind fun q => (rd q.2 p.1).bind fun d => (rd q.2 q.1).bind fun e => (intD d).bind fun m => (intD e).bind fun n => (ifc (okRg m n) (k (rgD m n))).bind fun w => some (w.u, q.2)
def ktup (ds : List PyData) : R := .d (.tuple ds)
theorem de_listRg1 {p2 pos2 : Pos} (hc : X.calm = true) (hg : Gl X "list") (hm : X.mg "list" = none) (hg2 : Gl X "range") (hm2 : X.mg "range" = none) (ha : PE X a (TEf X.K g f))
    (na : starEach [a] X.env = (false, eval a X.env) :: starEach [] X.env) : PE X (.Call (.Name "list" p) [.Call (.Name "range" p2) [a] [] pos2] [] pos) (TEf X.K g (rg1E R.nw f)) := by
  refine peI (pe_listRg hc hg hm (prg_1 hg2 hm2 ha na)) fun σ H Q h => ?_
  obtain ⟨S, z, u, z', e, h, q⟩ := h
  obtain ⟨⟨u1, z1⟩, h1, h⟩ := bnd h
  obtain ⟨d, r1, h⟩ := bnd h
  obtain ⟨n, hn, h⟩ := bnd h
  have hn := intD_eq hn
  obtain ⟨w, hw, h⟩ := bnd h
  obtain ⟨c, hw⟩ := ifc_eq hw
  subst hw
  cases h
  refine seq1 e h1 fun v1 H1 p => ?_
  have k := p.read1 r1
  rw [hn] at k
  exact ⟨n, rdp_int k, okRg_ok c, fun a ha => q _ _ (Post.fin (w := .nw (rgD 0 n)) p (Ext.upd ha) (rw_lst ha (rpa_rg 0 n)))⟩
theorem de_tupRg1 {p2 pos2 : Pos} (hc : X.calm = true) (hg : Gl X "tuple") (hm : X.mg "tuple" = none) (hg2 : Gl X "range") (hm2 : X.mg "range" = none) (ha : PE X a (TEf X.K g f))
    (na : starEach [a] X.env = (false, eval a X.env) :: starEach [] X.env) : PE X (.Call (.Name "tuple" p) [.Call (.Name "range" p2) [a] [] pos2] [] pos) (TEf X.K g (rg1E ktup f)) := by
  refine peI (pe_tupRg hc hg hm (prg_1 hg2 hm2 ha na)) fun σ H Q h => ?_
  obtain ⟨S, z, u, z', e, h, q⟩ := h
  obtain ⟨⟨u1, z1⟩, h1, h⟩ := bnd h
  obtain ⟨d, r1, h⟩ := bnd h
  obtain ⟨n, hn, h⟩ := bnd h
  have hn := intD_eq hn
  obtain ⟨w, hw, h⟩ := bnd h
  obtain ⟨c, hw⟩ := ifc_eq hw
  subst hw
  cases h
  refine seq1 e h1 fun v1 H1 p => ?_
  have k := p.read1 r1
  rw [hn] at k
  exact ⟨n, rdp_int k, okRg_ok c, fun a ha => q _ _ (Post.fin (w := .d (.tuple (rgD 0 n))) p (Ext.upd ha) (rw_tup ha (rpa_rg 0 n)))⟩
theorem de_listRg2 {p2 pos2 : Pos} (hc : X.calm = true) (hg : Gl X "list") (hm : X.mg "list" = none) (hg2 : Gl X "range") (hm2 : X.mg "range" = none) (ha : PE X a (TEf X.K g f1)) (hb : PE X b (TEf X.K g f2))
    (na : starEach [a, b] X.env = (false, eval a X.env) :: starEach [b] X.env) (nb : starEach [b] X.env = (false, eval b X.env) :: starEach [] X.env) (hp : (backTo pos2 (starEach [b] X.env)).any (·.1) = false) :
    PE X (.Call (.Name "list" p) [.Call (.Name "range" p2) [a, b] [] pos2] [] pos) (TEf X.K g (rg2E R.nw f1 f2)) := by
  refine peI (pe_listRg hc hg hm (prg_2 hg2 hm2 ha hb na nb hp)) fun σ H Q h => ?_
  obtain ⟨S, z, u, z', e, h, q⟩ := h
  obtain ⟨⟨u1, z1⟩, h1, h⟩ := bnd h
  obtain ⟨⟨u2, z2⟩, h2, h⟩ := bnd h
  obtain ⟨d1, r1, h⟩ := bnd h
  obtain ⟨d2, r2, h⟩ := bnd h
  obtain ⟨m, hm', h⟩ := bnd h
  have hm' := intD_eq hm'
  obtain ⟨n, hn, h⟩ := bnd h
  have hn := intD_eq hn
  obtain ⟨w, hw, h⟩ := bnd h
  obtain ⟨c, hw⟩ := ifc_eq hw
  subst hw
  cases h
  refine seq2 e h1 h2 fun v1 v2 H1 p => ?_
  obtain ⟨k1, k2⟩ := p.read2 r1 r2
  rw [hm'] at k1
  rw [hn] at k2
  exact ⟨m, n, rdp_int k1, rdp_int k2, okRg_ok c, fun a ha => q _ _ (Post.fin (w := .nw (rgD m n)) p (Ext.upd ha) (rw_lst ha (rpa_rg m n)))⟩
theorem de_tupRg2 {p2 pos2 : Pos} (hc : X.calm = true) (hg : Gl X "tuple") (hm : X.mg "tuple" = none) (hg2 : Gl X "range") (hm2 : X.mg "range" = none) (ha : PE X a (TEf X.K g f1)) (hb : PE X b (TEf X.K g f2))
    (na : starEach [a, b] X.env = (false, eval a X.env) :: starEach [b] X.env) (nb : starEach [b] X.env = (false, eval b X.env) :: starEach [] X.env) (hp : (backTo pos2 (starEach [b] X.env)).any (·.1) = false) :
    PE X (.Call (.Name "tuple" p) [.Call (.Name "range" p2) [a, b] [] pos2] [] pos) (TEf X.K g (rg2E ktup f1 f2)) := by
  refine peI (pe_tupRg hc hg hm (prg_2 hg2 hm2 ha hb na nb hp)) fun σ H Q h => ?_
  obtain ⟨S, z, u, z', e, h, q⟩ := h
  obtain ⟨⟨u1, z1⟩, h1, h⟩ := bnd h
  obtain ⟨⟨u2, z2⟩, h2, h⟩ := bnd h
  obtain ⟨d1, r1, h⟩ := bnd h
  obtain ⟨d2, r2, h⟩ := bnd h
  obtain ⟨m, hm', h⟩ := bnd h
  have hm' := intD_eq hm'
  obtain ⟨n, hn, h⟩ := bnd h
  have hn := intD_eq hn
  obtain ⟨w, hw, h⟩ := bnd h
  obtain ⟨c, hw⟩ := ifc_eq hw
  subst hw
  cases h
  refine seq2 e h1 h2 fun v1 v2 H1 p => ?_
  obtain ⟨k1, k2⟩ := p.read2 r1 r2
  rw [hm'] at k1
  rw [hn] at k2
  exact ⟨m, n, rdp_int k1, rdp_int k2, okRg_ok c, fun a ha => q _ _ (Post.fin (w := .d (.tuple (rgD m n))) p (Ext.upd ha) (rw_tup ha (rpa_rg m n)))⟩
end
end Mz

set_option Elab.async false
set_option linter.all false
set_option maxRecDepth 100000
set_option autoImplicit false
/-! Mz9: lists of one's own, written: append, extend, pop; count. -/
namespace Mz
open PySem PySem.Spec L2
open PyProof.Rows hiding St

section
variable {K : PySem.W.Frag} {g : Gb} {S T : Av} {σ : St} {H H' : Hp} {z z' : Z} {u : U} {v : V} {us : List U} {vs : List V} {i : Nat} {xs ys : List PyData}
/-- a list of one's own gets other items -/
theorem ER.mut {a : Addr} {ws' : List V} (e : ER K g S σ H z) (h : z.r[i]? = some (.own xs)) (hs : σ[i]? = some (some (V.ref a))) (q : RpA K (fun a => S a ∨ Ow g σ z.r a) H ys ws') :
    ER K g S σ (upd H a (.lst ws')) (z.put i (.own ys)) ∧ (∀ b, Ow g σ (z.put i (.own ys)).r b → Ow g σ z.r b) ∧ Kp (Ow g σ z.r) H (upd H a (.lst ws')) := by
  have oi : OwnAt z.r i xs := ⟨_, h, rfl⟩
  obtain ⟨a', ws, h1, h2, h3, h4, h5⟩ := e.own i xs oi
  rw [hs] at h1; cases h1
  have oa : Ow g σ z.r a := .inr ⟨i, xs, oi, hs⟩
  have back : ∀ {j ys'}, OwnAt (z.put i (.own ys)).r j ys' → ∃ ys'', OwnAt z.r j ys'' := fun {j ys'} q => by
    rcases own_put q with ⟨_, q⟩ | ⟨rfl, _⟩
    · exact ⟨_, q⟩
    · exact ⟨_, oi⟩
  have ow : ∀ b, Ow g σ (z.put i (.own ys)).r b → Ow g σ z.r b := fun b q => by
    rcases q with q | ⟨j, ys', o, s⟩
    · exact .inl q
    · obtain ⟨ys'', o⟩ := back o
      exact .inr ⟨j, ys'', o, s⟩
  have kp : Kp (Ow g σ z.r) H (upd H a (.lst ws')) := by
    refine ⟨fun b u hb n => ?_, fun b hb => ?_⟩
    · by_cases e : b = a
      · subst e
        rw [h4] at hb
        cases hb
        exact absurd rfl (n oa _)
      · rw [upd_ne e]; exact hb
    · by_cases e : b = a
      · subst e; rw [upd_same]; exact fun z => nomatch z
      · rw [upd_ne e]; exact hb
  have kp' : Kp (fun a => S a ∨ Ow g σ z.r a) H (upd H a (.lst ws')) := kp.mono fun _ q => .inr q
  have mv : ∀ b, (S b ∨ Ow g σ (z.put i (.own ys)).r b) → (S b ∨ Ow g σ z.r b) ∨ H b = none := fun b q => .inl (q.elim .inl fun q => .inr (ow b q))
  refine ⟨⟨by rw [← e.len]; simp [Z.put], fun b q => kp.tr b (e.trk b q), fun b c hg => ?_, fun j d hj => ?_, fun j ys' oj => ?_, fun j k xs' ys' b o1 o2 s1 s2 => ?_, fun j hj => ?_⟩, ow, kp⟩
  · obtain ⟨n, p, q⟩ := e.bag b c hg
    have nb : ∀ x, (x = b ∨ x = c) → x ≠ a := fun x hx hxa => h3 ⟨b, c, hg, by rw [← hxa]; exact hx⟩
    exact ⟨n, by rw [upd_ne (nb b (.inl rfl))]; exact p, by rw [upd_ne (nb c (.inr rfl))]; exact q⟩
  · rcases get_put hj with ⟨_, q⟩ | ⟨rfl, q⟩
    · obtain ⟨w, e1, e2⟩ := e.val j d q
      exact ⟨w, e1, e2.mv mv kp'⟩
    · cases q
  · rcases own_put oj with ⟨ne, oj⟩ | ⟨rfl, oe⟩
    · obtain ⟨b, us, k1, k2, k3, k4, k5⟩ := e.own j ys' oj
      have nb : b ≠ a := fun eb => ne (e.dis j i ys' xs a oj oi (eb ▸ k1) hs)
      exact ⟨b, us, k1, k2, k3, by rw [upd_ne nb]; exact k4, k5.mv mv kp'⟩
    · have oe : ys = ys' := Option.some.inj oe
      rw [← oe]
      exact ⟨a, ws', hs, h2, h3, upd_same, q.mv mv kp'⟩
  · obtain ⟨_, o1⟩ := back o1
    obtain ⟨_, o2⟩ := back o2
    exact e.dis j k _ _ b o1 o2 s1 s2
  · rcases get_put hj with ⟨_, q⟩ | ⟨rfl, q⟩
    · exact e.bgs j q
    · cases q
/-- the list of the slot i, in the state z -/
def ownOf (z : Z) (i : Nat) : Option (List PyData) := match z.r[i]? with
  | some (.own xs) => some xs
  | _ => none
theorem ownOf_eq (h : ownOf z i = some xs) : z.r[i]? = some (.own xs) := by
  unfold ownOf at h
  split at h
  · cases h; assumption
  · cases h
end

/-- x.append(e) -/
def appE (i : Nat) (f : MU) : MU := fun z => (ownOf z i).bind fun _ => (f z).bind fun p => (esc p.2 p.1).bind fun q => (ownOf q.2 i).bind fun xs => ifc (decide (xs.length < sizeLine)) (.d .none, q.2.put i (.own (xs ++ [q.1])))
/-- x.extend(e), e a list -/
def extE (i : Nat) (f : MU) : MU := fun z => (ownOf z i).bind fun _ => (f z).bind fun p => (rd p.2 p.1).bind fun d => (match d with | .list ds => some ds | _ => none).bind fun ds => (ownOf p.2 i).bind fun xs => ifc (decide (xs.length + ds.length ≤ sizeLine)) (.d .none, p.2.put i (.own (xs ++ ds)))
/-- x.pop() -/
def popE (i : Nat) : MU := fun z => (ownOf z i).bind fun xs => (xs[xs.length - 1]?).bind fun d => some (.d d, z.put i (.own xs.dropLast))
/-- x.pop(e) -/
def popAtE (i : Nat) (f : MU) : MU := fun z => (ownOf z i).bind fun _ => (f z).bind fun p => (rd p.2 p.1).bind fun d => (intD d).bind fun k => (ownOf p.2 i).bind fun xs => (ixN xs.length k).bind fun j => (xs[j]?).bind fun y => ifc (decide (-(2 ^ 63) ≤ k) && decide (k < 2 ^ 63)) (.d y, p.2.put i (.own (xs.eraseIdx j)))
theorem vE_own {z : Z} {i : Nat} {xs : List PyData} (h : ownOf z i = some xs) : vE i z = some (.loc i, z) := by
  unfold vE
  rw [ownOf_eq h]
section
variable {K : PySem.W.Frag} {g : Gb} {S : Av} {σ : St} {H H1 : Hp} {z z1 : Z} {u : U} {v : V} {i : Nat} {xs ys : List PyData}
/-- the list stands at its slot -/
theorem Post.own (p : Post K g S σ H z u z1 v H1) (h : ownOf z1 i = some xs) : ∃ a vs, σ[i]? = some (some (V.ref a)) ∧ H1 a = some (.lst vs) ∧ RpA K (fun a => S a ∨ Ow g σ z1.r a) H1 xs vs := by
  obtain ⟨a, vs, h1, _, _, h2, h3⟩ := p.er0.own i xs ⟨_, ownOf_eq h, rfl⟩
  exact ⟨a, vs, h1, h2, h3⟩
theorem ER.ownAt (e : ER K g S σ H z) (h : ownOf z i = some xs) : ∃ a vs, σ[i]? = some (some (V.ref a)) ∧ H a = some (.lst vs) ∧ RpA K (fun a => S a ∨ Ow g σ z.r a) H xs vs := by
  obtain ⟨a, vs, h1, _, _, h2, h3⟩ := e.own i xs ⟨_, ownOf_eq h, rfl⟩
  exact ⟨a, vs, h1, h2, h3⟩
/-- behind a store into one's own list, a plain answer -/
theorem PostL.mut {us : List U} {vs : List V} {a : Addr} {ws' : List V} (p : PostL K g S σ H z us z1 vs H1) (h : ownOf z1 i = some xs) (hs : σ[i]? = some (some (V.ref a))) (q : RpA K (fun a => S a ∨ Ow g σ z1.r a) H1 ys ws')
    {d : PyData} {w : V} (r : Rp K (fun a => S a ∨ Ow g σ z1.r a) H1 d w) : Post K g S σ H z (.d d) (z1.put i (.own ys)) w (upd H1 a (.lst ws')) := by
  have e0 : ER K g S σ H1 z1 := p.er.sub fun _ h => .inl h
  obtain ⟨e, o, k⟩ := e0.mut (ownOf_eq h) hs q
  refine ⟨p.kp.trans k p.ow, fun b q => p.ow b (o b q), e.sub fun b q => q.elim id fun z => z.elim, ?_, fun b q => q.elim, p.lk.trans (Lk.put fun ys q => by rw [ownOf_eq h] at q; cases q)⟩
  refine Rp.mv (S := fun a => S a ∨ Ow g σ z1.r a) (fun b q => .inl (q.elim (fun q => q.elim .inl fun z => z.elim) fun q => .inr (o b q))) (k.mono fun _ q => .inr q) r
end
section
variable {X : Cx} {g : Gb} {a b c : Expr} {es : List Expr} {f f1 f2 f3 : MU} {fl : ML} {pos p apos cpos : Pos} {i : Nat} {x : Str}
theorem tyv_list {K : PySem.W.Frag} {H : Hp} {a : Addr} {vs : List V} (h : H a = some (.lst vs)) : tyV K "list" (.ref a) H := .inl ⟨rfl, vs, SqL.of h⟩
theorem de_append (ho : PE X b (TEf X.K g (vE i))) (ha : PE X a (TEf X.K g f)) (hbase : attributeBase b "append" X.env (eval b X.env) = eval b X.env) (hs : starEach [a] X.env = (false, eval a X.env) :: starEach [] X.env)
    (hfew : ((backTo cpos (starEach [a] X.env)).all (fun x => !x.1) && (backToKw cpos (keywordEach [] X.env)).all (fun x => x.1.isSome)
      && decide (([a] : List Expr).length + ([] : List Keyword).length + (if ([] : List Keyword).isEmpty then 0 else 1) < 30)) = true) (hline : (apos.endLine == cpos.line) = true) :
    PE X (.Call (.Attribute b "append" apos) [a] [] cpos) (TEf X.K g (appE i f)) := by
  refine peI (pe_bm PySem.F.plainAttrs_list PySem.F.slot_list_append PySem.F.type_list_append mt_append ho (pa_cons ha pa_nil hs) hbase hfew hline hs rfl) fun σ H Q h => ?_
  obtain ⟨S, z, u, z', e, h, q⟩ := h
  obtain ⟨xs0, h0, h⟩ := bnd h
  obtain ⟨⟨u1, z1⟩, h1, h⟩ := bnd h
  obtain ⟨⟨d, z2⟩, h2, h⟩ := bnd h
  obtain ⟨xs, h3, h⟩ := bnd h
  obtain ⟨c, h⟩ := ifc_eq h
  cases h
  refine ⟨S, z, .loc i, z, e, vE_own h0, fun v H1 p => ?_⟩
  obtain ⟨a0, vs0, k1, k2, _⟩ := p.own h0
  have hv : σ[i]? = some (some v) := p.ru
  rw [hv] at k1
  cases k1
  refine ⟨tyv_list k2, _, z, u1, z1, p.er, h1, fun w H2 p2 => ?_⟩
  have pl := PostL.cons p (.cons p2 (.nil p2.er))
  -- the item is kept
  obtain ⟨m1, m2⟩ := PostL.esc (z'' := z2) (ds := [d]) p.er0 (PostL.cons (Post.mk (p2.kp) p2.ow (p2.er.sub fun a h => h.elim (fun h => .inl (.inl h)) .inr) (p2.ru.mv p2.er Kp.refl (fun _ h => h) (fun a h => h.elim (fun h => h.elim .inl fun z => z.elim) .inr) fun a h => .inl (h.elim (fun h => .inl (.inl h)) .inr)) p2.fr p2.lk) (.nil (p2.er.sub fun a h => h.elim (fun h => .inl (.inl h)) .inr))) (by
    show (esc z1 u1).bind _ = _
    rw [h2]; rfl)
  have pw : PostL X.K g S σ H z [] z2 [] H2 := ⟨p.kp.trans m1.kp p.ow, fun a h => p.ow a (m1.ow a h), m1.er, m1.ru, fun a h => h.elim, p.lk.trans m1.lk⟩
  obtain ⟨a1, vs1, k3, k4, k5⟩ := (m1.er.sub (T := S) fun a h => .inl h).ownAt h3
  rw [hv] at k3
  cases k3
  obtain ⟨_, _, e1, r1, _⟩ := m2
  cases e1
  refine ⟨_, vs1, w, rfl, rfl, k4, by rw [k5.length]; exact of_decide_eq_true c, q _ _ (pw.mut h3 hv (k5.append (.cons r1 .nil)) (by rw [Rp]))⟩
theorem de_extend (ho : PE X b (TEf X.K g (vE i))) (ha : PE X a (TEf X.K g f)) (hbase : attributeBase b "extend" X.env (eval b X.env) = eval b X.env) (hs : starEach [a] X.env = (false, eval a X.env) :: starEach [] X.env)
    (hfew : ((backTo cpos (starEach [a] X.env)).all (fun x => !x.1) && (backToKw cpos (keywordEach [] X.env)).all (fun x => x.1.isSome)
      && decide (([a] : List Expr).length + ([] : List Keyword).length + (if ([] : List Keyword).isEmpty then 0 else 1) < 30)) = true) (hline : (apos.endLine == cpos.line) = true) :
    PE X (.Call (.Attribute b "extend" apos) [a] [] cpos) (TEf X.K g (extE i f)) := by
  refine peI (pe_bm PySem.F.plainAttrs_list PySem.F.slot_list_extend PySem.F.type_list_extend mt_extend ho (pa_cons ha pa_nil hs) hbase hfew hline hs rfl) fun σ H Q h => ?_
  obtain ⟨S, z, u, z', e, h, q⟩ := h
  obtain ⟨xs0, h0, h⟩ := bnd h
  obtain ⟨⟨u1, z1⟩, h1, h⟩ := bnd h
  obtain ⟨d, r1, h⟩ := bnd h
  obtain ⟨ds, hd, h⟩ := bnd h
  have hd : d = .list ds := by
    split at hd
    · cases hd; rfl
    · cases hd
  obtain ⟨xs, h3, h⟩ := bnd h
  obtain ⟨c, h⟩ := ifc_eq h
  cases h
  refine ⟨S, z, .loc i, z, e, vE_own h0, fun v H1 p => ?_⟩
  obtain ⟨a0, vs0, k1, k2, _⟩ := p.own h0
  have hv : σ[i]? = some (some v) := p.ru
  rw [hv] at k1
  cases k1
  refine ⟨tyv_list k2, _, z, u1, z1, p.er, h1, fun w H2 p2 => ?_⟩
  have pl := PostL.cons p (.cons p2 (.nil p2.er))
  obtain ⟨a1, vs1, k3, k4, k5⟩ := (pl.er.sub (T := S) fun a h => .inl h).ownAt h3
  rw [hv] at k3
  cases k3
  have rw1 := (PostL.cons p2 (.nil p2.er)).read1 r1
  rw [hd] at rw1
  obtain ⟨a2, ws, rfl, k6, k7⟩ := rdp_lst rw1
  have k8 : RpA X.K (fun a => S a ∨ Ow g σ z1.r a) H2 ds ws := k7.sub fun a h => h.elim (fun h => .inl (.inl h)) .inr
  refine ⟨_, a2, vs1, ws, rfl, rfl, k4, k6, ?_, q _ _ (pl.mut h3 hv (k5.append k8) (by rw [Rp]))⟩
  rw [k5.length, k8.length]
  exact of_decide_eq_true c
theorem RpA.dropLast {K : PySem.W.Frag} {S : Av} {H : Hp} {ds : List PyData} {vs : List V} (h : RpA K S H ds vs) : RpA K S H ds.dropLast vs.dropLast := by
  rw [List.dropLast_eq_take, List.dropLast_eq_take, h.length]
  exact h.take _
theorem RpA.erase {K : PySem.W.Frag} {S : Av} {H : Hp} {ds : List PyData} {vs : List V} (h : RpA K S H ds vs) (i : Nat) : RpA K S H (ds.eraseIdx i) (vs.eraseIdx i) := by
  rw [List.eraseIdx_eq_take_drop_succ, List.eraseIdx_eq_take_drop_succ]
  exact (h.take _).append (h.drop _)
theorem de_pop (ho : PE X b (TEf X.K g (vE i))) (hbase : attributeBase b "pop" X.env (eval b X.env) = eval b X.env) (hline : (apos.endLine == cpos.line) = true) : PE X (.Call (.Attribute b "pop" apos) [] [] cpos) (TEf X.K g (popE i)) := by
  refine peI (pe_bm0 PySem.F.plainAttrs_list PySem.F.slot_list_pop PySem.F.type_list_pop mt_pop ho hbase hline) fun σ H Q h => ?_
  obtain ⟨S, z, u, z', e, h, q⟩ := h
  obtain ⟨xs, h0, h⟩ := bnd h
  obtain ⟨d, h1, h⟩ := bnd h
  cases h
  refine ⟨S, z, .loc i, z, e, vE_own h0, fun v H1 p => ?_⟩
  obtain ⟨a0, vs0, k1, k2, k3⟩ := p.own h0
  have hv : σ[i]? = some (some v) := p.ru
  rw [hv] at k1
  cases k1
  obtain ⟨y, k4, k5⟩ := k3.get h1
  have pl := PostL.cons p (.nil p.er)
  refine ⟨tyv_list k2, _, vs0, y, rfl, rfl, k2, by rw [k3.length]; exact k4, q _ _ (pl.mut h0 hv k3.dropLast k5)⟩
theorem de_popAt (ho : PE X b (TEf X.K g (vE i))) (ha : PE X a (TEf X.K g f)) (hbase : attributeBase b "pop" X.env (eval b X.env) = eval b X.env) (hs : starEach [a] X.env = (false, eval a X.env) :: starEach [] X.env)
    (hfew : ((backTo cpos (starEach [a] X.env)).all (fun x => !x.1) && (backToKw cpos (keywordEach [] X.env)).all (fun x => x.1.isSome)
      && decide (([a] : List Expr).length + ([] : List Keyword).length + (if ([] : List Keyword).isEmpty then 0 else 1) < 30)) = true) (hline : (apos.endLine == cpos.line) = true) :
    PE X (.Call (.Attribute b "pop" apos) [a] [] cpos) (TEf X.K g (popAtE i f)) := by
  refine peI (pe_bm PySem.F.plainAttrs_list PySem.F.slot_list_pop PySem.F.type_list_pop mt_popAt ho (pa_cons ha pa_nil hs) hbase hfew hline hs rfl) fun σ H Q h => ?_
  obtain ⟨S, z, u, z', e, h, q⟩ := h
  obtain ⟨xs0, h0, h⟩ := bnd h
  obtain ⟨⟨u1, z1⟩, h1, h⟩ := bnd h
  obtain ⟨d, r1, h⟩ := bnd h
  obtain ⟨k, hk, h⟩ := bnd h
  have hk := intD_eq hk
  obtain ⟨xs, h3, h⟩ := bnd h
  obtain ⟨j, hj, h⟩ := bnd h
  obtain ⟨y, hy, h⟩ := bnd h
  obtain ⟨c, h⟩ := ifc_eq h
  rw [Bool.and_eq_true] at c
  cases h
  refine ⟨S, z, .loc i, z, e, vE_own h0, fun v H1 p => ?_⟩
  obtain ⟨a0, vs0, k1, k2, _⟩ := p.own h0
  have hv : σ[i]? = some (some v) := p.ru
  rw [hv] at k1
  cases k1
  refine ⟨tyv_list k2, _, z, u1, z1, p.er, h1, fun w H2 p2 => ?_⟩
  have pl := PostL.cons p (.cons p2 (.nil p2.er))
  obtain ⟨a1, vs1, k3, k4, k5⟩ := (pl.er.sub (T := S) fun a h => .inl h).ownAt h3
  rw [hv] at k3
  cases k3
  have rw1 := (PostL.cons p2 (.nil p2.er)).read1 r1
  rw [hk] at rw1
  rw [rdp_int rw1]
  obtain ⟨y', k6, k7⟩ := k5.get hy
  refine ⟨_, vs1, k, j, y', rfl, rfl, k4, of_decide_eq_true c.1, of_decide_eq_true c.2, ?_, k6, q _ _ (pl.mut h3 hv (k5.erase j) k7)⟩
  rw [k5.length]
  exact (ixN_seq hj).1
end
/-! ### a method that only reads -/
def lstD : PyData → Option (List PyData)
  | .list ds => some ds
  | _ => none
theorem lstD_eq {d : PyData} {ds : List PyData} (h : lstD d = some ds) : d = .list ds := by
  unfold lstD at h
  split at h
  · cases h; rfl
  · cases h
def cntE (f f2 : MU) : MU := fun z => (f z).bind fun p => (rd p.2 p.1).bind fun d0 => (lstD d0).bind fun _ => (f2 p.2).bind fun q => (rd q.2 p.1).bind fun d1 => (rd q.2 q.1).bind fun d2 => (intD d2).bind fun k => (lstD d1).bind fun ds => (intsD ds).bind fun ns => some (.d (.int (ns.count k : Nat)), q.2)
section
variable {X : Cx} {g : Gb} {a b c : Expr} {es : List Expr} {f f1 f2 f3 : MU} {fl : ML} {pos p apos cpos : Pos} {i : Nat} {x : Str}
theorem de_count (ho : PE X b (TEf X.K g f1)) (ha : PE X a (TEf X.K g f2)) (hbase : attributeBase b "count" X.env (eval b X.env) = eval b X.env) (hs : starEach [a] X.env = (false, eval a X.env) :: starEach [] X.env)
    (hfew : ((backTo cpos (starEach [a] X.env)).all (fun x => !x.1) && (backToKw cpos (keywordEach [] X.env)).all (fun x => x.1.isSome)
      && decide (([a] : List Expr).length + ([] : List Keyword).length + (if ([] : List Keyword).isEmpty then 0 else 1) < 30)) = true) (hline : (apos.endLine == cpos.line) = true) :
    PE X (.Call (.Attribute b "count" apos) [a] [] cpos) (TEf X.K g (cntE f1 f2)) := by
  refine peI (pe_bm PySem.F.plainAttrs_list PySem.F.slot_list_count PySem.F.type_list_count mt_lcount ho (pa_cons ha pa_nil hs) hbase hfew hline hs rfl) fun σ H Q h => ?_
  obtain ⟨S, z, u, z', e, h, q⟩ := h
  obtain ⟨⟨u1, z1⟩, h1, h⟩ := bnd h
  obtain ⟨d0, r0, h⟩ := bnd h
  obtain ⟨ds0, l0, h⟩ := bnd h
  have l0 := lstD_eq l0
  obtain ⟨⟨u2, z2⟩, h2, h⟩ := bnd h
  obtain ⟨d1, r1, h⟩ := bnd h
  obtain ⟨d2, r2, h⟩ := bnd h
  obtain ⟨k, hk, h⟩ := bnd h
  have hk := intD_eq hk
  obtain ⟨ds, l1, h⟩ := bnd h
  have l1 := lstD_eq l1
  obtain ⟨ns, hn, h⟩ := bnd h
  cases h
  refine ⟨S, z, u1, z1, e, h1, fun v1 H1 p1 => ⟨?_, _, z1, u2, z2, p1.er, h2, fun v2 H2 p2 => ?_⟩⟩
  · have k0 := (PostL.cons p1 (.nil p1.er)).read1 r0
    rw [l0] at k0
    obtain ⟨a0, vs0, rfl, k1, _⟩ := rdp_lst k0
    exact tyv_list k1
  · have pl := PostL.cons p1 (.cons p2 (.nil p2.er))
    obtain ⟨q1, q2⟩ := pl.read2 r1 r2
    rw [l1] at q1
    rw [hk] at q2
    obtain ⟨a0, vs0, rfl, k1, k2⟩ := rdp_lst q1
    obtain ⟨k3, k4⟩ := ints_v k2 hn
    exact ⟨a0, ns, k, rfl, by rw [rdp_int q2], SqL.of (k3 ▸ k1), q _ _ (Post.fin (w := .d (.int (ns.count k : Nat))) pl Ext.refl (rw_int _))⟩
end
end Mz

set_option Elab.async false
set_option linter.all false
set_option maxRecDepth 100000
set_option autoImplicit false
/-! Mz10: what a loop walks. -/
namespace Mz
open PySem PySem.Spec L2
open PyProof.Rows hiding St

/-! ### slots that stand for the same -/
/-- the slots of r and r' stand for the same; only what is walked may be told apart -/
def Alk (r r' : List Sl) : Prop := r.length = r'.length ∧ ∀ i : Nat, r[i]? = r'[i]? ∨ ∃ s s' xs, r[i]? = some s ∧ r'[i]? = some s' ∧ ownL s = some xs ∧ ownL s' = some xs
theorem Alk.refl {r : List Sl} : Alk r r := ⟨rfl, fun _ => .inl rfl⟩
theorem Alk.symm {r r' : List Sl} (h : Alk r r') : Alk r' r := ⟨h.1.symm, fun i => (h.2 i).elim (fun e => .inl e.symm) fun ⟨s, s', xs, a, b, c, d⟩ => .inr ⟨s', s, xs, b, a, d, c⟩⟩
theorem Alk.trans {r r1 r2 : List Sl} (h : Alk r r1) (k : Alk r1 r2) : Alk r r2 := ⟨h.1.trans k.1, fun i => by
  rcases h.2 i with e | ⟨s, s', xs, a, b, c, d⟩
  · rw [e]; exact k.2 i
  · rcases k.2 i with e | ⟨t, t', ys, a', b', c', d'⟩
    · exact .inr ⟨s, s', xs, a, by rw [← e]; exact b, c, d⟩
    · rw [b] at a'; cases a'
      rw [d] at c'; cases c'
      exact .inr ⟨s, t', xs, a, b', c, d'⟩⟩
theorem Alk.own {r r' : List Sl} (h : Alk r r') {i : Nat} {xs : List PyData} (o : OwnAt r i xs) : OwnAt r' i xs := by
  obtain ⟨s, h1, h2⟩ := o
  rcases h.2 i with e | ⟨s1, s2, ys, a, b, c, d⟩
  · exact ⟨s, by rw [← e]; exact h1, h2⟩
  · rw [h1] at a; cases a
    rw [h2] at c; cases c
    exact ⟨s2, b, d⟩
theorem Alk.ow {g : Gb} {σ : St} {r r' : List Sl} (h : Alk r r') {a : Addr} (o : Ow g σ r a) : Ow g σ r' a := o.elim .inl fun ⟨i, xs, q, s⟩ => .inr ⟨i, xs, h.own q, s⟩
theorem Alk.not {r r' : List Sl} (h : Alk r r') {i : Nat} {s : Sl} (hs : r'[i]? = some s) (n : ownL s = none) : r[i]? = some s := by
  rcases h.2 i with e | ⟨s1, s2, ys, a, b, c, d⟩
  · rw [e]; exact hs
  · rw [hs] at b; cases b
    rw [n] at d; cases d
theorem ER.alk {K : PySem.W.Frag} {g : Gb} {S : Av} {σ : St} {H : Hp} {z : Z} {r' : List Sl} (e : ER K g S σ H z) (h : Alk z.r r') : ER K g S σ H ⟨r', z.b⟩ where
  len := h.1.symm.trans e.len
  trk := e.trk
  bag := e.bag
  val := fun i d hi => by
    obtain ⟨v, h1, h2⟩ := e.val i d (h.not hi rfl)
    exact ⟨v, h1, h2.sub fun a q => q.elim .inl fun q => .inr (h.symm.ow q)⟩
  own := fun i xs o => by
    obtain ⟨a, vs, h1, h2, h3, h4, h5⟩ := e.own i xs (h.symm.own o)
    exact ⟨a, vs, h1, h2, h3, h4, h5.sub fun a q => q.elim .inl fun q => .inr (h.symm.ow q)⟩
  dis := fun i j xs ys a o1 o2 => e.dis i j xs ys a (h.symm.own o1) (h.symm.own o2)
  bgs := fun i hi => e.bgs i (h.not hi rfl)

def lock1 (r : List Sl) (i : Nat) : List Sl := match r[i]? with
  | some (.own xs) => r.set i (.lck xs)
  | _ => r
def lockR (r : List Sl) (l : List Nat) : List Sl := l.foldl lock1 r
/-- what was locked is one's own again -/
def free1 (r0 r : List Sl) (i : Nat) : List Sl := match r0[i]?, r[i]? with
  | some (.own _), some (.lck xs) => r.set i (.own xs)
  | _, _ => r
def freeR (r0 r : List Sl) (l : List Nat) : List Sl := l.foldl (free1 r0) r
def Z.lock (z : Z) (l : List Nat) : Z := ⟨lockR z.r l, z.b⟩
def Z.free (z0 z : Z) (l : List Nat) : Z := ⟨freeR z0.r z.r l, z.b⟩
theorem alk_set {r : List Sl} {i : Nat} {s s' : Sl} {xs : List PyData} (h : r[i]? = some s) (h1 : ownL s = some xs) (h2 : ownL s' = some xs) : Alk r (r.set i s') := by
  refine ⟨by simp, fun j => ?_⟩
  have hl : i < r.length := (List.getElem?_eq_some_iff.mp h).1
  by_cases e : i = j
  · subst e
    exact .inr ⟨s, s', xs, h, List.getElem?_set_self hl, h1, h2⟩
  · exact .inl (by rw [List.getElem?_set_ne e])
theorem lock1_alk (r : List Sl) (i : Nat) : Alk r (lock1 r i) := by
  unfold lock1
  split
  · rename_i xs h
    exact alk_set h rfl rfl
  · exact Alk.refl
theorem lock_alk : ∀ (l : List Nat) (r : List Sl), Alk r (lockR r l)
  | [], r => Alk.refl
  | i :: l, r => (lock1_alk r i).trans (lock_alk l (lock1 r i))
theorem free1_alk (r0 r : List Sl) (i : Nat) : Alk r (free1 r0 r i) := by
  unfold free1
  split
  · rename_i xs h _
    exact alk_set (by assumption) rfl rfl
  · exact Alk.refl
theorem free_alk : ∀ (l : List Nat) (r0 r : List Sl), Alk r (freeR r0 r l)
  | [], _, r => Alk.refl
  | i :: l, r0, r => (free1_alk r0 r i).trans (free_alk l r0 (free1 r0 r i))
theorem lock1_lk (r : List Sl) (i : Nat) : Lk r (lock1 r i) := by
  unfold lock1
  split
  · rename_i xs h
    intro j ys hj
    by_cases e : i = j
    · subst e; rw [h] at hj; cases hj
    · rw [List.getElem?_set_ne e]; exact hj
  · exact Lk.refl
theorem lock_lk : ∀ (l : List Nat) (r : List Sl), Lk r (lockR r l)
  | [], r => Lk.refl
  | i :: l, r => (lock1_lk r i).trans (lock_lk l (lock1 r i))
/-- what was walked before stays so -/
theorem free1_lk {r0 r : List Sl} (h : Lk r0 r) (i : Nat) : Lk r0 (free1 r0 r i) := by
  unfold free1
  split
  · rename_i ys xs h1 h2
    intro j zs hj
    by_cases e : i = j
    · subst e; rw [h1] at hj; cases hj
    · rw [List.getElem?_set_ne e]; exact h j zs hj
  · exact h
theorem free_lk : ∀ (l : List Nat) {r0 r : List Sl}, Lk r0 r → Lk r0 (freeR r0 r l)
  | [], _, _, h => h
  | i :: l, r0, r, h => free_lk l (free1_lk h i)
/-- behind the lock the slot's list is walked -/
theorem lock1_at {r : List Sl} {i : Nat} {xs : List PyData} (h : OwnAt r i xs) : (lock1 r i)[i]? = some (Sl.lck xs) := by
  obtain ⟨s, h1, h2⟩ := h
  have hl : i < r.length := (List.getElem?_eq_some_iff.mp h1).1
  unfold lock1
  cases s with
  | own ys =>
    cases h2
    rw [h1]
    exact List.getElem?_set_self hl
  | lck ys =>
    cases h2
    rw [h1]
    exact h1
  | _ => cases h2
theorem lock_at : ∀ {l : List Nat} {r : List Sl} {i : Nat} {xs : List PyData}, OwnAt r i xs → i ∈ l → (lockR r l)[i]? = some (Sl.lck xs)
  | j :: l, r, i, xs, h, hm => by
    by_cases e : i = j
    · subst e
      exact lock_lk l _ _ _ (lock1_at h)
    · exact lock_at (l := l) ((lock1_alk r j).own h) ((List.mem_cons.mp hm).resolve_left e)

/-! ### the roots of what is walked -/
inductive Root where
  | lst (a : Addr) (vs : List V) | tup (a : Addr) (vs : List V) | slot (i : Nat) (a : Addr)
def Root.isT : Root → Bool
  | .tup _ _ => true
  | _ => false
def Root.at : Root → Addr
  | .lst a _ => a
  | .tup a _ => a
  | .slot _ a => a
def RootG (K : PySem.W.Frag) (g : Gb) (ds : List PyData) (S : Av) (σ : St) (H : Hp) (z : Z) : Root → Prop
  | .lst a vs => ¬ S a ∧ ¬ Ow g σ z.r a ∧ H a = some (.lst vs) ∧ RpA K (fun a => S a ∨ Ow g σ z.r a) H ds vs
  | .tup a vs => SqT K H a vs ∧ RpA K (fun a => S a ∨ Ow g σ z.r a) H ds vs
  | .slot i a => z.r[i]? = some (Sl.lck ds) ∧ σ[i]? = some (some (V.ref a))
/-- what is walked stays, in its slot -/
def LkS (σ : St) (r : List Sl) (σ' : St) (r' : List Sl) : Prop := ∀ (i : Nat) (xs : List PyData), r[i]? = some (Sl.lck xs) → r'[i]? = some (Sl.lck xs) ∧ σ'[i]? = σ[i]?
theorem LkS.refl {σ : St} {r : List Sl} : LkS σ r σ r := fun _ _ h => ⟨h, rfl⟩
theorem LkS.trans {σ σ1 σ2 : St} {r r1 r2 : List Sl} (a : LkS σ r σ1 r1) (b : LkS σ1 r1 σ2 r2) : LkS σ r σ2 r2 := fun i xs h => ⟨(b i xs (a i xs h).1).1, (b i xs (a i xs h).1).2.trans (a i xs h).2⟩
theorem Lk.s {σ : St} {r r' : List Sl} (h : Lk r r') : LkS σ r σ r' := fun i xs e => ⟨h i xs e, rfl⟩
section
variable {K : PySem.W.Frag} {g : Gb} {S S' : Av} {σ σ' : St} {H H' : Hp} {z z' : Z} {ds : List PyData}
theorem RootG.keep {r : Root} (h : RootG K g ds S σ H z r) (kp' : Kp (fun a => S a ∨ Ow g σ z.r a) H H') (ow : ∀ a, Ow g σ' z'.r a → Ow g σ z.r a ∨ H a = none) (hs : ∀ a, S' a → S a ∨ H a = none) (lk : LkS σ z.r σ' z'.r) : RootG K g ds S' σ' H' z' r := by
  have mv : ∀ a, (S' a ∨ Ow g σ' z'.r a) → (S a ∨ Ow g σ z.r a) ∨ H a = none := fun a q => by
    rcases q with q | q
    · exact (hs a q).elim (fun q => .inl (.inl q)) .inr
    · exact (ow a q).elim (fun q => .inl (.inr q)) .inr
  cases r with
  | lst a vs =>
    obtain ⟨h1, h2, h3, h4⟩ := h
    refine ⟨fun q => ?_, fun q => ?_, kp'.at' a _ h3 fun o => o.elim (fun o => absurd o h1) fun o => absurd o h2, h4.mv mv kp'⟩
    · rcases hs a q with q | q
      · exact h1 q
      · rw [h3] at q; cases q
    · rcases ow a q with q | q
      · exact h2 q
      · rw [h3] at q; cases q
  | tup a vs => exact ⟨kp'.seqT h.1, h.2.mv mv kp'⟩
  | slot i a =>
    obtain ⟨h1, h2⟩ := h
    obtain ⟨k1, k2⟩ := lk i ds h1
    exact ⟨k1, by rw [k2]; exact h2⟩
theorem RootG.lst {r : Root} (h : RootG K g ds S σ H z r) (e : ER K g S σ H z) (n : r.isT = false) : ∃ vs, H r.at = some (.lst vs) ∧ RpA K (fun a => S a ∨ Ow g σ z.r a) H ds vs := by
  cases r with
  | lst a vs => exact ⟨vs, h.2.2.1, h.2.2.2⟩
  | tup a vs => cases n
  | slot i a =>
    obtain ⟨h1, h2⟩ := h
    obtain ⟨a', vs, k1, _, _, k2, k3⟩ := e.own i ds ⟨_, h1, rfl⟩
    rw [h2] at k1; cases k1
    exact ⟨vs, k2, k3⟩
theorem RootG.tup {r : Root} (h : RootG K g ds S σ H z r) (n : r.isT = true) : ∃ vs, SqT K H r.at vs ∧ RpA K (fun a => S a ∨ Ow g σ z.r a) H ds vs := by
  cases r with
  | lst a vs => cases n
  | tup a vs => exact ⟨vs, h.1, h.2⟩
  | slot i a => cases n
end

structure Src (K : PySem.W.Frag) (g : Gb) (J : It) (items : List PyData) (G : Av → St → Hp → Z → Prop) : Prop where
  go : ∀ S σ H z i, ER K g S σ H z → G S σ H z → i < items.length → J.go i H
  stop : ∀ S σ H z i, ER K g S σ H z → G S σ H z → i = items.length → J.stop i H
  yld : ∀ S σ H z (i : Nat) x H' d, ER K g S σ H z → G S σ H z → items[i]? = some d → J.yld i H x H' → Ext H H' ∧ Rp K (fun a => S a ∨ Ow g σ z.r a) H' d x
  keep : ∀ S σ H z S' σ' H' z', G S σ H z → Kp (fun a => S a ∨ Ow g σ z.r a) H H' → (∀ a, Ow g σ' z'.r a → Ow g σ z.r a ∨ H a = none) → (∀ a, S' a → S a ∨ H a = none) → LkS σ z.r σ' z'.r → G S' σ' H' z'
section
variable {K : PySem.W.Frag} {g : Gb}
theorem get_rp {S : Av} {H : Hp} {ds : List PyData} {vs : List V} {i : Nat} {d : PyData} {x : V} (h : RpA K S H ds vs) (hd : ds[i]? = some d) (hx : vs[i]? = some x) : Rp K S H d x := by
  obtain ⟨v, e, q⟩ := h.get hd
  rw [hx] at e; cases e
  exact q
theorem src_lst {r : Root} {ds : List PyData} (n : r.isT = false) : Src K g (Itl K r.at) ds (fun S σ H z => RootG K g ds S σ H z r) where
  go := fun S σ H z i e h hi => by
    obtain ⟨vs, h1, h2⟩ := h.lst e n
    have hi' : i < vs.length := by rw [h2.length]; exact hi
    exact ⟨vs, vs[i], SqL.of h1, List.getElem?_eq_getElem hi'⟩
  stop := fun S σ H z i e h hi => by
    obtain ⟨vs, h1, h2⟩ := h.lst e n
    exact ⟨vs, SqL.of h1, by rw [h2.length]; exact Nat.le_of_eq hi.symm⟩
  yld := fun S σ H z i x H' d e h hd y => by
    obtain ⟨vs, h1, h2⟩ := h.lst e n
    obtain ⟨rfl, y⟩ := y
    exact ⟨Ext.refl, get_rp h2 hd (y vs (SqL.of h1))⟩
  keep := fun S σ H z S' σ' H' z' h kp ow hs lk => h.keep kp ow hs lk
theorem src_tup {r : Root} {ds : List PyData} (n : r.isT = true) : Src K g (Itt K r.at) ds (fun S σ H z => RootG K g ds S σ H z r) where
  go := fun S σ H z i e h hi => by
    obtain ⟨vs, h1, h2⟩ := h.tup n
    have hi' : i < vs.length := by rw [h2.length]; exact hi
    exact ⟨vs, vs[i], h1, List.getElem?_eq_getElem hi'⟩
  stop := fun S σ H z i e h hi => by
    obtain ⟨vs, h1, h2⟩ := h.tup n
    exact ⟨vs, h1, by rw [h2.length]; exact Nat.le_of_eq hi.symm⟩
  yld := fun S σ H z i x H' d e h hd y => by
    obtain ⟨vs, h1, h2⟩ := h.tup n
    obtain ⟨rfl, y⟩ := y
    exact ⟨Ext.refl, get_rp h2 hd (y vs h1)⟩
  keep := fun S σ H z S' σ' H' z' h kp ow hs lk => h.keep kp ow hs lk
theorem src_rng (lo hi : Int) : Src K g (Itr lo (hi - lo).toNat) (rgD lo hi) (fun _ _ _ _ => True) where
  go := fun S σ H z i e h ho => by
    show i < (hi - lo).toNat
    simpa [rgD] using ho
  stop := fun S σ H z i e h ho => by
    show (hi - lo).toNat ≤ i
    rw [ho]; simp [rgD]
  yld := fun S σ H z i x H' d e h hd y => by
    obtain ⟨rfl, rfl⟩ := y
    unfold rgD at hd
    rw [List.getElem?_map] at hd
    obtain ⟨j, e1, rfl⟩ := Option.map_eq_some_iff.mp hd
    obtain ⟨h1, h2⟩ := List.getElem?_eq_some_iff.mp e1
    rw [List.getElem_range] at h2
    subst h2
    exact ⟨Ext.refl, by rw [Rp]⟩
  keep := fun S σ H z S' σ' H' z' h kp ow hs lk => trivial
/-- pairs of a place and an item -/
def enumD (ds : List PyData) : List PyData := ds.zipIdx.map fun p => .tuple [.int (p.2 : Nat), p.1]
theorem enumD_get {ds : List PyData} {i : Nat} {d : PyData} (h : (enumD ds)[i]? = some d) : ∃ x, ds[i]? = some x ∧ d = .tuple [.int (i : Nat), x] := by
  unfold enumD at h
  rw [List.getElem?_map, List.getElem?_zipIdx] at h
  obtain ⟨p, h1, rfl⟩ := Option.map_eq_some_iff.mp h
  obtain ⟨x, h2, rfl⟩ := Option.map_eq_some_iff.mp h1
  exact ⟨x, h2, by simp⟩
theorem enumD_length (ds : List PyData) : (enumD ds).length = ds.length := by simp [enumD]
theorem rp_pair {S : Av} {H : Hp} {T : Addr} {d1 d2 : PyData} {v1 v2 : V} (hT : H T = none) (h1 : Rp K S H d1 v1) (h2 : Rp K S H d2 v2) : Ext H (upd H T (.tup [v1, v2])) ∧ Rp K S (upd H T (.tup [v1, v2])) (.tuple [d1, d2]) (.ref T) :=
  ⟨Ext.upd hT, rw_tup hT (.cons h1 (.cons h2 .nil))⟩
def zipD (ds es : List PyData) : List PyData := (ds.zip es).map fun p => .tuple [p.1, p.2]
theorem zipD_get {ds es : List PyData} {i : Nat} {d : PyData} (h : (zipD ds es)[i]? = some d) : ∃ x y, ds[i]? = some x ∧ es[i]? = some y ∧ d = .tuple [x, y] := by
  unfold zipD at h
  rw [List.getElem?_map] at h
  obtain ⟨p, h1, rfl⟩ := Option.map_eq_some_iff.mp h
  obtain ⟨h2, h3⟩ := List.getElem?_zip_eq_some.mp h1
  exact ⟨_, _, h2, h3, rfl⟩
theorem zipD_length (ds es : List PyData) : (zipD ds es).length = min ds.length es.length := by simp [zipD]
end
end Mz

set_option Elab.async false
set_option linter.all false
set_option maxRecDepth 100000
set_option autoImplicit false
set_option maxHeartbeats 1000000
/-! Mz11: enumerate and zip over lists and tuples, in any mix. -/
namespace Mz
open PySem PySem.Spec L2
open PyProof.Rows hiding St
open PySem.AutoSeq1 (wpAny_loadPart')

/-- a list (b false) or a tuple (b true) that is read -/
def SqX (b : Bool) (K : PySem.W.Frag) (H : Hp) (a : Addr) (xs : List V) : Prop := if b then SqT K H a xs else SqL K H a xs
def ItAt (b : Bool) (h : Heap) (it a : Addr) (i : Nat) : Prop := if b then h.IsTupleIter it a i else h.IsListIter it a i
def IsX (b : Bool) (h : Heap) (a : Addr) (its : Array Value) : Prop := if b then h.IsTuple a its else h.IsList a its
def itObj (b : Bool) (a : Addr) : Obj := if b then { cls := .type "tuple_iterator", data := .fields #[.ref a, .int 0 0] } else { cls := .type "list_iterator", data := .fields #[.ref a, .int 0 0] }
theorem drawsX (b : Bool) {prog : Program} {w : World} {A : Around} (hh : A.handled = none) (it l : Addr) (hne : l ≠ it) (items : Array Value) :
    Draws prog w A it [it, l] items.size (fun i v => items[i]? = some v) (fun i h => ItAt b h it l i ∧ IsX b h l items) := by
  cases b
  · exact Draws.list hh it l hne items
  · exact Draws.tuple hh it l hne items
theorem beginsX (b : Bool) (l : Addr) (items : Array Value) : Begins (.ref l) (itObj b l) fun h => IsX b h l items := by
  cases b
  · exact begins_list l items
  · exact begins_tuple l items
theorem ItAt.new {b : Bool} {h : Heap} {it a : Addr} (e : h.get? it = some (itObj b a)) : ItAt b h it a 0 := by
  cases b
  · exact ⟨_, e, rfl, rfl⟩
  · exact ⟨_, e, rfl, rfl⟩
theorem ItAt.move {b : Bool} {h h' : Heap} {it a : Addr} {i : Nat} (x : ItAt b h it a i) (k : ∀ o, h.get? it = some o → h'.get? it = some o) : ItAt b h' it a i := by
  cases b
  · obtain ⟨o, e, q⟩ := (show h.IsListIter it a i from x)
    exact ⟨o, k o e, q⟩
  · obtain ⟨o, e, q⟩ := (show h.IsTupleIter it a i from x)
    exact ⟨o, k o e, q⟩
theorem ItAt.obj {b : Bool} {h : Heap} {it a : Addr} {i : Nat} (x : ItAt b h it a i) : ∃ o, h.get? it = some o ∧ ∀ v, o.data ≠ .cell v := by
  cases b
  · obtain ⟨o, e, _, d⟩ := (show h.IsListIter it a i from x)
    exact ⟨o, e, fun v z => by rw [d] at z; cases z⟩
  · obtain ⟨o, e, _, d⟩ := (show h.IsTupleIter it a i from x)
    exact ⟨o, e, fun v z => by rw [d] at z; cases z⟩
theorem IsX.move {b : Bool} {h h' : Heap} {a : Addr} {its : Array Value} (x : IsX b h a its) (k : ∀ o, h.get? a = some o → h'.get? a = some o) : IsX b h' a its := by
  cases b
  · obtain ⟨o, e, q⟩ := (show h.IsList a its from x)
    exact ⟨o, k o e, q⟩
  · obtain ⟨o, e, q⟩ := (show h.IsTuple a its from x)
    exact ⟨o, k o e, q⟩
theorem IsX.lt {b : Bool} {h : Heap} {a : Addr} {its : Array Value} (x : IsX b h a its) : a < h.objs.size := by
  cases b
  · obtain ⟨o, e, q⟩ := (show h.IsList a its from x)
    exact Heap.lt_size e
  · obtain ⟨o, e, q⟩ := (show h.IsTuple a its from x)
    exact Heap.lt_size e
section
variable {X : Cx} {pins : List (Addr × Obj)} {σ : St} {H : Hp} {s : Shared}
theorem seqX (I : L2.Inv X pins σ H s) {b : Bool} {a : Addr} {xs : List V} (h : SqX b X.K H a xs) : ∃ its : List Value, Vals xs its ∧ IsX b s.heap a its.toArray ∧ xs.length ≤ sizeLine := by
  cases b
  · obtain ⟨its, r, p, z⟩ := I.list (show SqL X.K H a xs from h)
    exact ⟨its, r, p.isList, z⟩
  · obtain ⟨its, r, p, z⟩ := I.tuple (show SqT X.K H a xs from h)
    exact ⟨its, r, p, z⟩
theorem seqX_inj (I : L2.Inv X pins σ H s) {b : Bool} {a : Addr} {xs ys : List V} (h : SqX b X.K H a xs) (h' : SqX b X.K H a ys) : xs = ys := by
  cases b
  · exact I.list_inj h h'
  · exact I.tuple_inj h h'
end

/-! ### enumerate -/
theorem meets_enum1 {v : Value} {o : Obj} {H : Heap → Prop} (B : Begins v o H) :
    Meets (Builtin.«enumerate.__new__» ⟨[.type "enumerate", v], []⟩) (fun _ R s => H s.heap ∧
      R (.ok (.ret (.ref (s.heap.push o).objs.size))) { s with heap := (s.heap.push o).push { cls := .type "enumerate", data := .fields #[.none, .bool false, .ref s.heap.objs.size, rawInt 0, .none, .none] } }) :=
  .of_wp fun prog w A R s hq => by
    obtain ⟨hp, g, d, tk, os⟩ := s
    obtain ⟨h1, hq⟩ := hq
    have hsub := sub_enumerate
    have qi : ∀ {A' : Around} {E : Value → Shared → Prop} {Q : Value → Shared → Prop}, Q (.ref hp.objs.size) ⟨hp.push o, g, d, tk, os⟩ → wpAny (model prog w) A' (pyIter v) Q E ⟨hp, g, d, tk, os⟩ :=
      fun q => B.iter prog w _ _ ⟨hp, g, d, tk, os⟩ _ h1 q
    wp_walk using qi
    refine wpAny_stack_any fun st => wpAny_pure ?_
    split
    · rename_i c _ _ _ _ _
      cases (c == Value.type "enumerate") <;> (wp_walk using qi; exact ⟨_, rfl, hq⟩)
    · wp_walk using qi
      exact ⟨_, rfl, hq⟩
section
variable {prog : Program} {w : World} {A : Around} {E : Value → Shared → Prop} {s : Shared}
theorem enum_begins1 {v : Value} {o : Obj} {H : Heap → Prop} {Q : Value → Shared → Prop} (B : Begins v o H) (h1 : H s.heap)
    (hq : ∀ h', IsEnum h' (s.heap.objs.size + 1) s.heap.objs.size 0 .none → h'.get? s.heap.objs.size = some o →
      (∀ b o, s.heap.get? b = some o → h'.get? b = some o) → Q (.ref (s.heap.objs.size + 1)) { s with heap := h' }) :
    wpAny (model prog w) A (call (.type "enumerate") [v]) Q E s := by
  refine callType_new F.called_enumerate (by decide) (F.typeCall_enumerate_1 _) (F.newCall_enumerate_1 _) (fun obj => F.args_object_init_2 obj _) F.entry_enumerate_new (meets_enum1 B) ⟨h1, ?_⟩
  have hz : (s.heap.push o).objs.size = s.heap.objs.size + 1 := Heap.size_push ..
  show _ ∧ _
  rw [hz]
  have he : ((s.heap.push o).push { cls := .type "enumerate", data := .fields #[.none, .bool false, .ref s.heap.objs.size, rawInt 0, .none, .none] }).get? (s.heap.objs.size + 1) = some { cls := .type "enumerate", data := .fields #[.none, .bool false, .ref s.heap.objs.size, rawInt 0, .none, .none] } := by
    rw [← hz]; exact Heap.get?_push_size _ rfl
  exact ⟨⟨_, he, rfl⟩, hq _ he (Heap.get?_push_of_some _ (Heap.get?_push_size _ B.free)) fun b ob e => Heap.get?_push_of_some _ (Heap.get?_push_of_some _ e)⟩
end
def IteX (b : Bool) (K : PySem.W.Frag) (a : Addr) : It :=
  ⟨fun i H => ∃ (xs : List V) (x : V), SqX b K H a xs ∧ xs[i]? = some x, fun i H v H' => ∃ T x, v = .ref T ∧ H T = none ∧ H' = upd H T (.tup [.int (i : Nat), x]) ∧ ∀ xs, SqX b K H a xs → xs[i]? = some x,
    fun i H => ∃ xs : List V, SqX b K H a xs ∧ i = xs.length⟩
theorem turn_enumX (bt : Bool) {P : Program} {w : World} {K : PySem.W.Frag} {elts : List Expr} {kk : Nat} {tpos : Pos} (a e it : Addr) (hae : a ≠ e) (hai : a ≠ it) :
    Turn P w K (.Tuple elts kk tpos) (IteX bt K a) [e, it] e (fun i h => (∃ old, IsEnum h e it ((i : Nat) : Int) old) ∧ ItAt bt h it a i ∧ e ≠ it) where
  mem := List.mem_cons_self
  obj := fun i h st b hb => by
    obtain ⟨⟨old, he⟩, hi, _⟩ := st
    rcases List.mem_cons.mp hb with rfl | hb
    · exact ⟨_, he, fun v q => nomatch q⟩
    · rw [List.mem_singleton.mp hb]; exact hi.obj
  keep := fun i h h' st k => by
    obtain ⟨⟨old, he⟩, hi, hne⟩ := st
    exact ⟨⟨old, k e (by simp) _ he⟩, hi.move fun o q => k it (by simp) o q, hne⟩
  item := by
    intro X hP hw hK hc i pins s σ H E I hf st hg
    subst hP hw hK
    obtain ⟨⟨old, he⟩, hit, hne⟩ := st
    obtain ⟨xs, x, hq, hx⟩ := hg
    obtain ⟨its, rv, px, hz⟩ := seqX I hq
    have hlt : i < its.toArray.size := by
      rw [List.size_toArray, ← rv.length]
      exact (List.getElem?_eq_some_iff.mp hx).1
    have D := drawsX bt (prog := X.prog) (w := X.w) (A := X.A.in1) (I.ok.hd hc) it a hai its.toArray
    refine wpAny_pyNext_enum_itemC D he ⟨hit, px⟩ hlt hne (by simp only [List.mem_cons, List.not_mem_nil, or_false]; exact fun q => q.elim hne fun q => hae q.symm) fun u h' tk hu ho hst' hT hsz hk => ?_
    obtain ⟨hit', px'⟩ := hst'
    have ru : RelV x u := by
      obtain ⟨u', e1, r⟩ := rv.get hx
      have hu' : its.toArray[i]? = some u := hu
      rw [List.getElem?_toArray, e1] at hu'
      cases hu'
      exact r
    have hel : e < s.heap.objs.size := Heap.lt_size he
    have hil : it < s.heap.objs.size := by obtain ⟨_, q, _⟩ := hit.obj; exact Heap.lt_size q
    refine ⟨_, rfl, wpAny_letOwnedTupleGo_enum (s := { s with heap := h', toks := tk + 1 }) ho fun h'' he' sb => ?_⟩
    have hT2 : h''.get? s.heap.objs.size = some { cls := .type "tuple", data := .seq #[.int i tk, u] } := (sb.2 _ (Nat.ne_of_gt hel)).trans hT
    have new : ObjOk X.prog X.w (upd H s.heap.objs.size (.tup [.int (i : Nat), x])) h'' s.heap.objs.size (.tup [.int (i : Nat), x]) :=
      ⟨(by show 2 ≤ sizeLine; decide), [.int i tk, u], .cons ⟨_, rfl⟩ (.cons ru .nil), ⟨_, hT2, rfl, _, rfl⟩⟩
    have I1 : L2.Inv X pins σ (upd H s.heap.objs.size (.tup [.int (i : Nat), x])) { s with heap := h'', toks := tk + 1 } :=
      I.turnedNew (ch := [e, it]) (fun b ob hb q => (sb.2 b fun z => hb (by simp [z])).trans (hk b ob (fun z => hb (by simp [z])) (fun z => hb (by simp [z])) q)) hf (Nat.le_refl _) new
    refine ⟨.ref s.heap.objs.size, _, I1, rfl, ⟨_, x, rfl, I.hok.fresh (Nat.le_refl _), rfl, fun ys hy => by rw [seqX_inj I hy hq]; exact hx⟩, ⟨⟨u, ?_⟩, hit'.move fun o q => (sb.2 it (Ne.symm hne)).trans q, hne⟩, fun b hb => ?_⟩
    · have e1 : ((i + 1 : Nat) : Int) = (i : Int) + 1 := by omega
      rw [e1]; exact he'
    · have hb' : b < s.heap.objs.size := by
        rcases List.mem_cons.mp hb with rfl | hb
        · exact hel
        · rw [List.mem_singleton.mp hb]; exact hil
      rw [upd_ne (Nat.ne_of_lt hb')]
      exact (hf b hb).1
  done := by
    intro X hP hw hK hc i pins s σ H E I hf st hg
    subst hP hw hK
    obtain ⟨⟨old, he⟩, hit, hne⟩ := st
    obtain ⟨xs, hq, hx⟩ := hg
    obtain ⟨its, rv, px, hz⟩ := seqX I hq
    obtain ⟨f0, f1, f2, f3, f4, f5⟩ := hf it (by simp)
    have hl := rv.length
    have en : i = its.toArray.size := by rw [List.size_toArray, ← hl]; exact hx
    have D := drawsX bt (prog := X.prog) (w := X.w) (A := X.A.in1) (I.ok.hd hc) it a hai its.toArray
    exact wpAny_pyNext_enum_endD D he (en ▸ ⟨hit, px⟩) fun h' eb => ⟨rfl, I.turned (t' := s.toks) (fun b o hb q => eb b o hb q) f0 f1 f3 f4 f5⟩
  self := fun A i s Q E st h => by
    obtain ⟨⟨old, he⟩, _⟩ := st
    exact wpAny_pyIter_enum he h
def iEnumX (K : PySem.W.Frag) (ta : TA) : TI := fun σ H R => ta σ H fun vs H1 => ∃ b a xs, vs = [.ref a] ∧ SqX b K H1 a xs ∧ R (IteX b K a) H1
theorem pi_enumX {X : Cx} {e : Expr} {ta : TA} {p pos tpos : Pos} {elts : List Expr} {kk : Nat} (hg : Gl X "enumerate") (hm : X.mg "enumerate" = none) (ha : PA X [e] ta) (hs : starEach [e] X.env = [(false, eval e X.env)]) :
    PI X (.Tuple elts kk tpos) (.Call (.Name "enumerate" p) [e] [] pos) (iEnumX X.K ta) := by
  refine ⟨fun pins s σ H R I h => ?_⟩
  refine Call_ (ld_blt I hg hm boot_enumerate (PyProof.Rows.callWith_type1 (thn (ha.run pos pins s σ H _ I h) fun us s1 ⟨vs, H1, I1, r1, q1⟩ => ?_) hs rfl))
  obtain ⟨bt, a, xs, rfl, hq, q⟩ := q1
  obtain rfl := Vals.ref1 r1
  obtain ⟨its, rv, px, hz⟩ := seqX I1 hq
  refine enum_begins1 (beginsX bt a its.toArray) px fun h' he ho hk => wpAny_pyIter_enum he ?_
  have la := px.lt
  have I2 : L2.Inv X pins σ H1 { s1 with heap := h' } := I1.kept (t' := s1.toks) hk
  refine ⟨s1.heap.objs.size + 1, [s1.heap.objs.size + 1, s1.heap.objs.size], _, _, H1, rfl, I2, turn_enumX bt a (s1.heap.objs.size + 1) s1.heap.objs.size (Nat.ne_of_lt (Nat.lt_succ_of_lt la)) (Nat.ne_of_lt la), ⟨⟨.none, he⟩, ItAt.new ho, Nat.succ_ne_self _⟩, fun b hb => ?_, q⟩
  have hle : s1.heap.objs.size ≤ b := by
    rcases List.mem_cons.mp hb with rfl | hb
    · exact Nat.le_succ _
    · rw [List.mem_singleton.mp hb]; exact Nat.le_refl _
  exact I1.fpOk hle (I1.hok.fresh hle)
section
variable {K : PySem.W.Frag} {g : Gb}
theorem RootG.sqX {r : Root} {ds : List PyData} {S : Av} {σ : St} {H : Hp} {z : Z} (h : RootG K g ds S σ H z r) (e : ER K g S σ H z) : ∃ vs, SqX r.isT K H r.at vs ∧ RpA K (fun a => S a ∨ Ow g σ z.r a) H ds vs := by
  cases hb : r.isT
  · obtain ⟨vs, h1, h2⟩ := h.lst e hb
    exact ⟨vs, SqL.of h1, h2⟩
  · obtain ⟨vs, h1, h2⟩ := h.tup hb
    exact ⟨vs, h1, h2⟩
theorem src_enum {r : Root} {ds : List PyData} : Src K g (IteX r.isT K r.at) (enumD ds) (fun S σ H z => RootG K g ds S σ H z r) where
  go := fun S σ H z i e h hi => by
    obtain ⟨vs, h1, h2⟩ := h.sqX e
    have hi' : i < vs.length := by rw [h2.length, ← enumD_length]; exact hi
    exact ⟨vs, vs[i], h1, List.getElem?_eq_getElem hi'⟩
  stop := fun S σ H z i e h hi => by
    obtain ⟨vs, h1, h2⟩ := h.sqX e
    exact ⟨vs, h1, by rw [h2.length, ← enumD_length]; exact hi⟩
  yld := fun S σ H z i x H' d e h hd y => by
    obtain ⟨vs, h1, h2⟩ := h.sqX e
    obtain ⟨T, x', rfl, hT, rfl, y⟩ := y
    obtain ⟨d', hd', rfl⟩ := enumD_get hd
    exact rp_pair hT (by rw [Rp]) (get_rp h2 hd' (y vs h1))
  keep := fun S σ H z S' σ' H' z' h kp ow hs lk => h.keep kp ow hs lk
end

/-! ### zip -/
def ItzX (b1 b2 : Bool) (K : PySem.W.Frag) (a b : Addr) : It :=
  ⟨fun i H => ∃ (xs ys : List V) (x y : V), SqX b1 K H a xs ∧ SqX b2 K H b ys ∧ xs[i]? = some x ∧ ys[i]? = some y,
    fun i H v H' => ∃ T x y, v = .ref T ∧ H T = none ∧ H' = upd H T (.tup [x, y]) ∧ (∀ xs, SqX b1 K H a xs → xs[i]? = some x) ∧ ∀ ys, SqX b2 K H b ys → ys[i]? = some y,
    fun i H => ∃ xs ys : List V, SqX b1 K H a xs ∧ SqX b2 K H b ys ∧ i = min xs.length ys.length⟩
theorem turn_zipX (t1 t2 : Bool) {P : Program} {w : World} {K : PySem.W.Frag} {elts : List Expr} {kk : Nat} {tpos : Pos} {a b z TI TO i1 i2 : Addr} (S : ZipSep2 z TI TO i1 i2 [i1, a] [i2, b]) (n1 : a ≠ i1) (n2 : b ≠ i2) :
    Turn P w K (.Tuple elts kk tpos) (ItzX t1 t2 K a b) [z, TI, TO, i1, i2] z (fun i h => IsZip h z TI TO .none ∧ IsTupOf2 h TI (.ref i1) (.ref i2) ∧ (∃ x y, IsTupOf2 h TO x y) ∧ ItAt t1 h i1 a i ∧ ItAt t2 h i2 b i) where
  mem := List.mem_cons_self
  obj := fun i h st c hc => by
    obtain ⟨hz, hTI, ⟨x, y, hTO⟩, h1, h2⟩ := st
    simp only [List.mem_cons, List.not_mem_nil, or_false] at hc
    rcases hc with rfl | rfl | rfl | rfl | rfl
    · exact ⟨_, hz, fun v q => nomatch q⟩
    · exact ⟨_, hTI, fun v q => nomatch q⟩
    · exact ⟨_, hTO, fun v q => nomatch q⟩
    · exact h1.obj
    · exact h2.obj
  keep := fun i h h' st k => by
    obtain ⟨hz, hTI, ⟨x, y, hTO⟩, h1, h2⟩ := st
    exact ⟨k z (by simp) _ hz, k TI (by simp) _ hTI, ⟨x, y, k TO (by simp) _ hTO⟩, h1.move fun o q => k i1 (by simp) o q, h2.move fun o q => k i2 (by simp) o q⟩
  item := by
    intro X hP hw hK hc i pins s σ H E I hf st hg
    subst hP hw hK
    obtain ⟨hz, hTI, ⟨x0, y0, hTO⟩, h1, h2⟩ := st
    obtain ⟨xs, ys, x, y, hqx, hqy, hx, hy⟩ := hg
    obtain ⟨its, rv, px, _⟩ := seqX I hqx
    obtain ⟨its2, rv2, px2, _⟩ := seqX I hqy
    have lt1 : i < its.toArray.size := by
      rw [List.size_toArray, ← rv.length]
      exact (List.getElem?_eq_some_iff.mp hx).1
    have lt2 : i < its2.toArray.size := by
      rw [List.size_toArray, ← rv2.length]
      exact (List.getElem?_eq_some_iff.mp hy).1
    have D1 := drawsX t1 (prog := X.prog) (w := X.w) (A := X.A.in1) (I.ok.hd hc) i1 a n1 its.toArray
    have D2 := drawsX t2 (prog := X.prog) (w := X.w) (A := X.A.in1) (I.ok.hd hc) i2 b n2 its2.toArray
    have hzl : z < s.heap.objs.size := Heap.lt_size hz
    refine wpAny_pyNext_zipD2_item S D1 D2 hz hTI hTO ⟨h1, px⟩ ⟨h2, px2⟩ lt1 lt2 fun u u2 h' tk hu hu2 z' TO' st1 st2 hT hsz hk => ?_
    have ru : RelV x u := by
      obtain ⟨u', e1, r⟩ := rv.get hx
      have hu : its.toArray[i]? = some u := hu
      rw [List.getElem?_toArray, e1] at hu
      cases hu
      exact r
    have ru2 : RelV y u2 := by
      obtain ⟨u', e1, r⟩ := rv2.get hy
      have hu2 : its2.toArray[i]? = some u2 := hu2
      rw [List.getElem?_toArray, e1] at hu2
      cases hu2
      exact r
    refine ⟨_, rfl, wpAny_letOwnedTupleGo_zip (s := { s with heap := h', toks := tk }) z' fun h'' z'' sb => ?_⟩
    have hT2 : h''.get? s.heap.objs.size = some { cls := .type "tuple", data := .seq #[u, u2] } := (sb.2 _ (Nat.ne_of_gt hzl)).trans hT
    have new : ObjOk X.prog X.w (upd H s.heap.objs.size (.tup [x, y])) h'' s.heap.objs.size (.tup [x, y]) :=
      ⟨(by show 2 ≤ sizeLine; decide), [u, u2], .cons ru (.cons ru2 .nil), ⟨_, hT2, rfl, _, rfl⟩⟩
    have I1 : L2.Inv X pins σ (upd H s.heap.objs.size (.tup [x, y])) { s with heap := h'', toks := tk } :=
      I.turnedNew (ch := [z, TI, TO, i1, i2]) (fun c o hb q => (sb.2 c fun q' => hb (by simp [q'])).trans (hk c o (fun q' => hb (by simp [q'])) (fun q' => hb (by simp [q'])) (fun q' => hb (by simp [q'])) (fun q' => hb (by simp [q'])) q)) hf (Nat.le_refl _) new
    have i1z : i1 ≠ z := fun q => S.zf1 (q ▸ S.mem1)
    have i2z : i2 ≠ z := fun q => S.zf2 (q ▸ S.mem2)
    refine ⟨.ref s.heap.objs.size, _, I1, rfl, ⟨_, x, y, rfl, I.hok.fresh (Nat.le_refl _), rfl, fun l hl => by rw [seqX_inj I hl hqx]; exact hx, fun l hl => by rw [seqX_inj I hl hqy]; exact hy⟩, ⟨z'', ?_, ⟨u, u2, ?_⟩, ?_, ?_⟩, fun c hcm => ?_⟩
    · exact (sb.2 _ S.TIz).trans (hk _ _ S.TIz S.TITO S.TIi1 S.TIi2 hTI)
    · exact (sb.2 _ S.TOz).trans TO'
    · exact st1.1.move fun o q => (sb.2 _ i1z).trans q
    · exact st2.1.move fun o q => (sb.2 _ i2z).trans q
    · have hlt : c < s.heap.objs.size := by
        simp only [List.mem_cons, List.not_mem_nil, or_false] at hcm
        rcases hcm with rfl | rfl | rfl | rfl | rfl
        · exact hzl
        · exact Heap.lt_size hTI
        · exact Heap.lt_size hTO
        · obtain ⟨_, e1, _⟩ := h1.obj; exact Heap.lt_size e1
        · obtain ⟨_, e2, _⟩ := h2.obj; exact Heap.lt_size e2
      rw [upd_ne (Nat.ne_of_lt hlt)]
      exact (hf c hcm).1
  done := by
    intro X hP hw hK hc i pins s σ H E I hf st hg
    subst hP hw hK
    obtain ⟨hz, hTI, ⟨x0, y0, hTO⟩, h1, h2⟩ := st
    obtain ⟨xs, ys, hqx, hqy, hend⟩ := hg
    obtain ⟨its, rv, px, _⟩ := seqX I hqx
    obtain ⟨its2, rv2, px2, _⟩ := seqX I hqy
    have l1 := rv.length
    have l2 := rv2.length
    have D1 := drawsX t1 (prog := X.prog) (w := X.w) (A := X.A.in1) (I.ok.hd hc) i1 a n1 its.toArray
    have D2 := drawsX t2 (prog := X.prog) (w := X.w) (A := X.A.in1) (I.ok.hd hc) i2 b n2 its2.toArray
    refine wpAny_pyNext_zipD2_end S D1 D2 hz hTI hTO ⟨h1, px⟩ ⟨h2, px2⟩ (by rw [List.size_toArray]; omega) (by rw [List.size_toArray]; omega) (by rw [List.size_toArray, List.size_toArray]; omega) fun h' tk hk => ⟨rfl, ?_⟩
    exact I.turnedL (ch := [z, TI, TO, i1, i2]) (fun c o hb q => hk c o (fun q' => hb (by simp [q'])) (fun q' => hb (by simp [q'])) (fun q' => hb (by simp [q'])) (fun q' => hb (by simp [q'])) q) hf
  self := fun A i s Q E st h => wpAny_pyIter_zip st.1 h
def iZipX (K : PySem.W.Frag) (ta : TA) : TI := fun σ H R => ta σ H fun vs H1 => ∃ b1 b2 a b xs ys, vs = [.ref a, .ref b] ∧ SqX b1 K H1 a xs ∧ SqX b2 K H1 b ys ∧ R (ItzX b1 b2 K a b) H1
theorem pi_zipX {X : Cx} {e e2 : Expr} {ta : TA} {p pos tpos : Pos} {elts : List Expr} {kk : Nat} (hg : Gl X "zip") (hm : X.mg "zip" = none) (ha : PA X [e, e2] ta)
    (hs : starEach [e, e2] X.env = (false, eval e X.env) :: starEach [e2] X.env) (hpl : (backTo pos (starEach [e2] X.env)).any (·.1) = false) :
    PI X (.Tuple elts kk tpos) (.Call (.Name "zip" p) [e, e2] [] pos) (iZipX X.K ta) := by
  refine ⟨fun pins s σ H R I h => ?_⟩
  refine Call_ (ld_blt I hg hm PyProof.Rows.boot_zip (PyProof.Rows.callWith_type1 (thn (ha.run pos pins s σ H _ I h) fun us s1 ⟨vs, H1, I1, r1, q1⟩ => ?_) hs hpl))
  obtain ⟨t1, t2, a, b, xs, ys, rfl, hqx, hqy, q⟩ := q1
  obtain ⟨u1, u2, rfl, ra, rb⟩ := Vals.two r1
  cases ra
  cases rb
  obtain ⟨its, rv, px, _⟩ := seqX I1 hqx
  obtain ⟨its2, rv2, px2, _⟩ := seqX I1 hqy
  have la := px.lt
  have lb := px2.lt
  refine zip_begins2 (beginsX t1 a its.toArray) (beginsX t2 b its2.toArray) px px2 fun h' hz hTI hTO o1 o2 hsz hk => wpAny_pyIter_zip hz ?_
  have I2 : L2.Inv X pins σ H1 { s1 with heap := h' } := I1.kept (t' := s1.toks) hk
  refine ⟨s1.heap.objs.size + 4, [s1.heap.objs.size + 4, s1.heap.objs.size + 2, s1.heap.objs.size + 3, s1.heap.objs.size, s1.heap.objs.size + 1], _, _, H1, rfl, I2,
    turn_zipX t1 t2 (zip_sep2 (fp1 := [a]) (fp2 := [b]) (fun c hc => by rw [List.mem_singleton.mp hc]; exact la) fun c hc => by rw [List.mem_singleton.mp hc]; exact lb) (Nat.ne_of_lt la) (Nat.ne_of_lt (Nat.lt_succ_of_lt lb)), ⟨hz, hTI, ⟨_, _, hTO⟩, ItAt.new o1, ItAt.new o2⟩, fun c hcm => ?_, q⟩
  have hle : s1.heap.objs.size ≤ c := by
    simp only [List.mem_cons, List.not_mem_nil, or_false] at hcm
    rcases hcm with rfl | rfl | rfl | rfl | rfl
    · exact Nat.le_add_right _ _
    · exact Nat.le_add_right _ _
    · exact Nat.le_add_right _ _
    · exact Nat.le_refl _
    · exact Nat.le_add_right _ _
  exact I1.fpOk hle (I1.hok.fresh hle)
section
variable {K : PySem.W.Frag} {g : Gb}
theorem src_zip {r q : Root} {ds es : List PyData} : Src K g (ItzX r.isT q.isT K r.at q.at) (zipD ds es) (fun S σ H z => RootG K g ds S σ H z r ∧ RootG K g es S σ H z q) where
  go := fun S σ H z i e h hi => by
    obtain ⟨vs, h1, h2⟩ := h.1.sqX e
    obtain ⟨ws, h3, h4⟩ := h.2.sqX e
    rw [zipD_length] at hi
    have hi1 : i < vs.length := by rw [h2.length]; omega
    have hi2 : i < ws.length := by rw [h4.length]; omega
    exact ⟨vs, ws, vs[i], ws[i], h1, h3, List.getElem?_eq_getElem hi1, List.getElem?_eq_getElem hi2⟩
  stop := fun S σ H z i e h hi => by
    obtain ⟨vs, h1, h2⟩ := h.1.sqX e
    obtain ⟨ws, h3, h4⟩ := h.2.sqX e
    rw [zipD_length] at hi
    exact ⟨vs, ws, h1, h3, by rw [h2.length, h4.length]; exact hi⟩
  yld := fun S σ H z i x H' d e h hd y => by
    obtain ⟨vs, h1, h2⟩ := h.1.sqX e
    obtain ⟨ws, h3, h4⟩ := h.2.sqX e
    obtain ⟨T, x', y', rfl, hT, rfl, y1, y2⟩ := y
    obtain ⟨d', e', hd', he', rfl⟩ := zipD_get hd
    exact rp_pair hT (get_rp h2 hd' (y1 vs h1)) (get_rp h4 he' (y2 ws h3))
  keep := fun S σ H z S' σ' H' z' h kp ow hs lk => ⟨h.1.keep kp ow hs lk, h.2.keep kp ow hs lk⟩
end
end Mz

set_option Elab.async false
set_option linter.all false
set_option maxRecDepth 100000
set_option autoImplicit false
/-! Mz12: what a loop walks, as a reading. -/
namespace Mz
open PySem PySem.Spec L2
open PyProof.Rows hiding St

abbrev MI := Z → Option (List PyData × List Nat × Z)
def lkOf : U → List Nat
  | .loc i => [i]
  | _ => []
def seqD : PyData → Option (List PyData)
  | .list ds => some ds
  | .tuple ds => some ds
  | _ => none
def itVal (f : MU) : MI := fun z => (f z).bind fun p => (rd p.2 p.1).bind fun d => (seqD d).bind fun ds => some (ds, lkOf p.1, p.2)
def okI (n : Int) : Bool := decide (-(2 ^ 62) ≤ n) && decide (n < 2 ^ 62)
def itRg1 (f : MU) : MI := fun z => (f z).bind fun p => (rd p.2 p.1).bind fun d => (intD d).bind fun n => ifc (okI n) (rgD 0 n, [], p.2)
def itRg2 (f f' : MU) : MI := fun z => (f z).bind fun p => (f' p.2).bind fun q => (rd q.2 p.1).bind fun d => (rd q.2 q.1).bind fun e => (intD d).bind fun m => (intD e).bind fun n => ifc (okI m && okI n) (rgD m n, [], q.2)
def itEnum (f : MU) : MI := fun z => (f z).bind fun p => (rd p.2 p.1).bind fun d => (seqD d).bind fun ds => some (enumD ds, lkOf p.1, p.2)
def itZip (f f' : MU) : MI := fun z => (f z).bind fun p => (f' p.2).bind fun q => (rd q.2 p.1).bind fun d => (rd q.2 q.1).bind fun e => (seqD d).bind fun ds => (seqD e).bind fun es => some (zipD ds es, lkOf p.1 ++ lkOf q.1, q.2)
def isTupD : PyData → Bool
  | .tuple _ => true
  | _ => false
def itRev (f : MU) : MI := fun z => (f z).bind fun p => (rd p.2 p.1).bind fun d => (seqD d).bind fun ds => some (ds.reverse, lkOf p.1, p.2)

structure PostI (K : PySem.W.Frag) (g : Gb) (S : Av) (σ : St) (H : Hp) (z : Z) (items : List PyData) (lks : List Nat) (z' : Z) (J : It) (H' : Hp) : Prop where
  kp : Kp (Ow g σ z.r) H H'
  ow : ∀ a, Ow g σ z'.r a → Ow g σ z.r a
  er : ER K g S σ H' z'
  lk : Lk z.r z'.r
  src : ∃ G, Src K g J items G ∧ G S σ H' (z'.lock lks)
def WIf (K : PySem.W.Frag) (g : Gb) (m : MI) : TI := fun σ H R => ∃ S z items lks z', ER K g S σ H z ∧ m z = some (items, lks, z') ∧ ∀ J H', PostI K g S σ H z items lks z' J H' → R J H'
theorem piI {X : Cx} {tg e : Expr} {t t' : TI} (h : PI X tg e t) (i : ∀ σ H R, t' σ H R → t σ H R) : PI X tg e t' := ⟨fun pins s σ H R I q => h.run pins s σ H R I (i σ H R q)⟩

section
variable {K : PySem.W.Frag} {g : Gb} {S T : Av} {σ : St} {H H' : Hp} {z z' : Z} {u : U} {v : V} {ds : List PyData} {d : PyData}
theorem root_rp {l : List Nat} (h : Rp K (fun a => S a ∨ Ow g σ z.r a) H d v) (hd : seqD d = some ds) : ∃ r : Root, v = .ref r.at ∧ RootG K g ds S σ H (z.lock l) r ∧ r.isT = isTupD d := by
  have al : ∀ a, Ow g σ (z.lock l).r a → Ow g σ z.r a := fun a q => (lock_alk l z.r).symm.ow q
  have al' : ∀ a, (S a ∨ Ow g σ (z.lock l).r a) → (S a ∨ Ow g σ z.r a) := fun a q => q.elim .inl fun q => .inr (al a q)
  cases d with
  | list es =>
    cases hd
    rw [Rp] at h
    obtain ⟨a, xs, rfl, h1, h2, h3⟩ := h
    exact ⟨.lst a xs, rfl, ⟨fun q => h1 (.inl q), fun q => h1 (.inr (al a q)), h2, h3.sub al'⟩, rfl⟩
  | tuple es =>
    cases hd
    rw [Rp] at h
    obtain ⟨a, xs, rfl, h2, h3⟩ := h
    exact ⟨.tup a xs, rfl, ⟨h2, h3.sub al'⟩, rfl⟩
  | _ => cases hd
theorem root_of {l : List Nat} (e : ER K g T σ H z) (r : RU K g T σ H z u v) (ht : ∀ a, tmp u v a → ¬ S a) (hs : ∀ a, S a → T a) (hl : ∀ i ∈ lkOf u, i ∈ l) (h : rd z u = some d) (hd : seqD d = some ds) :
    ∃ r : Root, v = .ref r.at ∧ RootG K g ds S σ H (z.lock l) r ∧ r.isT = isTupD d := by
  have al : ∀ a, Ow g σ (z.lock l).r a → Ow g σ z.r a := fun a q => (lock_alk l z.r).symm.ow q
  have sb : ∀ a, (S a ∨ Ow g σ z.r a) → (T a ∨ Ow g σ z.r a) := fun a q => q.elim (fun q => .inl (hs a q)) .inr
  cases u with
  | d x =>
    cases h
    exact root_rp (Rp.sub (show Rp K _ H _ v from r) sb) hd
  | nw xs =>
    cases h
    cases hd
    obtain ⟨a, ws, rfl, q1, q2, q3, q4⟩ := r
    refine ⟨.lst a ws, rfl, ⟨ht a rfl, fun q => ?_, q3, q4.sub fun a q => q.elim (fun q => .inl (hs a q)) fun q => .inr (al a q)⟩, rfl⟩
    rcases al a q with q | ⟨j, ys, o, s⟩
    · exact q2 q
    · obtain ⟨b, us, k1, k2, _⟩ := e.own j ys o
      rw [s] at k1; cases k1
      exact k2 q1
  | loc i =>
    have hv : σ[i]? = some (some v) := r
    have h' : rdS z.r[i]? = some d := h
    cases q : z.r[i]? with
    | none => rw [q] at h'; cases h'
    | some s =>
      rw [q] at h'
      have own : ∀ xs, ownL s = some xs → d = .list xs → ∃ r : Root, v = .ref r.at ∧ RootG K g ds S σ H (z.lock l) r ∧ r.isT = isTupD d := fun xs e2 e3 => by
        subst e3
        cases hd
        obtain ⟨a, ws, q1, _, _, q2, q3⟩ := e.own i _ ⟨s, q, e2⟩
        rw [hv] at q1; cases q1
        exact ⟨.slot i a, rfl, ⟨lock_at ⟨s, q, e2⟩ (hl i List.mem_cons_self), hv⟩, rfl⟩
      cases s with
      | val x =>
        cases h'
        obtain ⟨w, e1, e2⟩ := e.val i _ q
        rw [hv] at e1; cases e1
        exact root_rp (e2.sub sb) hd
      | own xs => cases h'; exact own xs rfl rfl
      | lck xs => cases h'; exact own xs rfl rfl
      | no => cases h'
      | bag => cases h'
  | bag => cases h
end

section
variable {X : Cx} {g : Gb} {a b c tg : Expr} {es : List Expr} {f f1 f2 f3 : MU} {fl : ML} {pos p : Pos}
section
variable {K : PySem.W.Frag} {S : Av} {σ : St} {H H' : Hp} {z z' : Z} {u u2 : U} {v v2 : V} {us : List U} {vs : List V} {d d2 : PyData} {ds ds2 : List PyData} {l : List Nat} {items : List PyData} {J : It}
theorem Post.toI (p : PostL K g S σ H z us z' vs H') (h : ∃ G, Src K g J items G ∧ G S σ H' (z'.lock l)) : PostI K g S σ H z items l z' J H' := ⟨p.kp, p.ow, p.er.sub fun a h => .inl h, p.lk, h⟩
theorem PostL.root1 (e : ER K g S σ H z) (p : PostL K g S σ H z [u] z' [v] H') (hl : ∀ i ∈ lkOf u, i ∈ l) (h : rd z' u = some d) (hd : seqD d = some ds) :
    ∃ r : Root, v = .ref r.at ∧ RootG K g ds S σ H' (z'.lock l) r ∧ r.isT = isTupD d := by
  obtain ⟨_, _, e0, q, _⟩ := p.ru
  cases e0
  exact root_of p.er q (fun a t s => e.trk a s (p.fr a (.inl t))) (fun a s => .inl s) hl h hd
theorem PostL.root2 (e : ER K g S σ H z) (p : PostL K g S σ H z [u, u2] z' [v, v2] H') (hl : ∀ i ∈ lkOf u2, i ∈ l) (h : rd z' u2 = some d) (hd : seqD d = some ds) :
    ∃ r : Root, v2 = .ref r.at ∧ RootG K g ds S σ H' (z'.lock l) r ∧ r.isT = isTupD d := by
  obtain ⟨_, _, e0, _, ⟨_, _, e1, q, _⟩, _⟩ := p.ru
  cases e0; cases e1
  exact root_of p.er q (fun a t s => e.trk a s (p.fr a (.inr (.inl t)))) (fun a s => .inl s) hl h hd
theorem PostL.root0 (e : ER K g S σ H z) (p : PostL K g S σ H z [u, u2] z' [v, v2] H') (hl : ∀ i ∈ lkOf u, i ∈ l) (h : rd z' u = some d) (hd : seqD d = some ds) :
    ∃ r : Root, v = .ref r.at ∧ RootG K g ds S σ H' (z'.lock l) r ∧ r.isT = isTupD d := by
  obtain ⟨_, _, e0, q, _⟩ := p.ru
  cases e0
  exact root_of p.er q (fun a t s => e.trk a s (p.fr a (.inl t))) (fun a s => .inl s) hl h hd
theorem PostL.erL (p : PostL K g S σ H z us z' vs H') (l : List Nat) : ER K g S σ H' (z'.lock l) := (p.er.sub fun a h => .inl h).alk (lock_alk _ _)
end
/-- one reading, asked both as a list's and as a tuple's -/
theorem di_val (ha : PE X a (TEf X.K g f)) : PI X tg a (WIf X.K g (itVal f)) := by
  refine ⟨fun pins s σ H R I h => ?_⟩
  obtain ⟨S, z, items, lks, z', e, h, q⟩ := h
  obtain ⟨⟨u1, z1⟩, h1, h⟩ := bnd h
  obtain ⟨d, r1, h⟩ := bnd h
  obtain ⟨ds, hd, h⟩ := bnd h
  cases h
  cases ht : isTupD d with
  | false =>
    refine (pi_list ha).run pins s σ H R I (seq1 e h1 fun v1 H1 p => ?_)
    obtain ⟨r, rfl, hr, nt⟩ := p.root1 e (l := lkOf u1) (fun _ h => h) r1 hd
    rw [ht] at nt
    obtain ⟨vs, k1, k2⟩ := hr.lst (p.erL _) nt
    exact ⟨r.at, rfl, ⟨vs, SqL.of k1⟩, q _ _ (Post.toI p ⟨_, src_lst nt, hr⟩)⟩
  | true =>
    refine (pi_tup ha).run pins s σ H R I (seq1 e h1 fun v1 H1 p => ?_)
    obtain ⟨r, rfl, hr, nt⟩ := p.root1 e (l := lkOf u1) (fun _ h => h) r1 hd
    rw [ht] at nt
    obtain ⟨vs, k1, k2⟩ := hr.tup nt
    exact ⟨r.at, rfl, ⟨vs, k1⟩, q _ _ (Post.toI p ⟨_, src_tup nt, hr⟩)⟩
theorem okI_of {n : Int} (h : okI n = true) : -(2 ^ 62) ≤ n ∧ n < 2 ^ 62 := by
  unfold okI at h
  simp only [Bool.and_eq_true, decide_eq_true_eq] at h
  exact h
theorem di_rg1 (hg : Gl X "range") (hm : X.mg "range" = none) (ha : PA X [a] (TAf X.K g (consE f nilE))) (hs : starEach [a] X.env = [(false, eval a X.env)]) : PI X tg (.Call (.Name "range" p) [a] [] pos) (WIf X.K g (itRg1 f)) := by
  refine piI (pi_range1 hg hm ha hs) fun σ H R h => ?_
  obtain ⟨S, z, items, lks, z', e, h, q⟩ := h
  obtain ⟨⟨u1, z1⟩, h1, h⟩ := bnd h
  obtain ⟨d, r1, h⟩ := bnd h
  obtain ⟨n, hn, h⟩ := bnd h
  obtain ⟨ho, h⟩ := ifc_eq h
  cases h
  have hn := intD_eq hn
  rw [hn] at r1
  obtain ⟨k1, k2⟩ := okI_of ho
  refine seqL e (us := [u1]) (z1 := z1) (by show ((f z).bind _) = _; rw [h1]; rfl) fun vs H1 p => ?_
  obtain ⟨v1, vr, rfl, _, hr, _⟩ := id p.ru
  cases hr
  have k := rdp_int (p.read1 r1)
  subst k
  have sr := src_rng (K := X.K) (g := g) 0 n
  rw [show n - 0 = n by omega] at sr
  exact ⟨n, rfl, k1, k2, q _ _ (Post.toI p ⟨_, sr, trivial⟩)⟩
theorem di_rg2 (hg : Gl X "range") (hm : X.mg "range" = none) (ha : PA X [a, b] (TAf X.K g (consE f (consE f1 nilE)))) (hs : starEach [a, b] X.env = [(false, eval a X.env), (false, eval b X.env)]) (hs2 : starEach [b] X.env = [(false, eval b X.env)]) : PI X tg (.Call (.Name "range" p) [a, b] [] pos) (WIf X.K g (itRg2 f f1)) := by
  refine piI (pi_range2 hg hm ha hs hs2) fun σ H R h => ?_
  obtain ⟨S, z, items, lks, z', e, h, q⟩ := h
  obtain ⟨⟨u1, z1⟩, h1, h⟩ := bnd h
  obtain ⟨⟨u2, z2⟩, h2, h⟩ := bnd h
  obtain ⟨d, r1, h⟩ := bnd h
  obtain ⟨d2, r2, h⟩ := bnd h
  obtain ⟨n, hn, h⟩ := bnd h
  obtain ⟨m, hm', h⟩ := bnd h
  obtain ⟨ho, h⟩ := ifc_eq h
  cases h
  have hn := intD_eq hn
  have hm' := intD_eq hm'
  rw [hn] at r1
  rw [hm'] at r2
  simp only [Bool.and_eq_true] at ho
  obtain ⟨k1, k2⟩ := okI_of ho.1
  obtain ⟨k3, k4⟩ := okI_of ho.2
  refine seqL e (us := [u1, u2]) (z1 := z2) (by show ((f z).bind _) = _; rw [h1]; show ((consE f1 nilE z1).bind _) = _; unfold consE; rw [h2]; rfl) fun vs H1 p => ?_
  obtain ⟨v1, vr, rfl, _, ⟨v2, vr, rfl, _, hr, _⟩, _⟩ := id p.ru
  cases hr
  have k := p.read2 r1 r2
  have e1 := rdp_int k.1
  have e2 := rdp_int k.2
  subst e1 e2
  exact ⟨n, m, rfl, ⟨k1, k2, k3, k4⟩, q _ _ (Post.toI p ⟨_, src_rng n m, trivial⟩)⟩
theorem di_enum {elts : List Expr} {kk : Nat} {tpos : Pos} (hg : Gl X "enumerate") (hm : X.mg "enumerate" = none) (ha : PA X [a] (TAf X.K g (consE f nilE))) (hs : starEach [a] X.env = [(false, eval a X.env)]) : PI X (.Tuple elts kk tpos) (.Call (.Name "enumerate" p) [a] [] pos) (WIf X.K g (itEnum f)) := by
  refine piI (pi_enumX hg hm ha hs) fun σ H R h => ?_
  obtain ⟨S, z, items, lks, z', e, h, q⟩ := h
  obtain ⟨⟨u1, z1⟩, h1, h⟩ := bnd h
  obtain ⟨d, r1, h⟩ := bnd h
  obtain ⟨ds, hd, h⟩ := bnd h
  cases h
  refine seqL e (us := [u1]) (z1 := z1) (by show ((f z).bind _) = _; rw [h1]; rfl) fun vs H1 p => ?_
  obtain ⟨v1, vr, rfl, _, hr0, _⟩ := id p.ru
  cases hr0
  obtain ⟨r, rfl, hr, nt⟩ := p.root1 e (l := lkOf u1) (fun _ h => h) r1 hd
  obtain ⟨vs, k1, k2⟩ := hr.sqX (p.erL _)
  exact ⟨r.isT, r.at, vs, rfl, k1, q _ _ (Post.toI p ⟨_, src_enum, hr⟩)⟩
theorem di_zip {elts : List Expr} {kk : Nat} {tpos : Pos} (hg : Gl X "zip") (hm : X.mg "zip" = none) (ha : PA X [a, b] (TAf X.K g (consE f (consE f1 nilE)))) (hs : starEach [a, b] X.env = (false, eval a X.env) :: starEach [b] X.env) (hs2 : (backTo pos (starEach [b] X.env)).any (·.1) = false) :
    PI X (.Tuple elts kk tpos) (.Call (.Name "zip" p) [a, b] [] pos) (WIf X.K g (itZip f f1)) := by
  refine piI (pi_zipX hg hm ha hs hs2) fun σ H R h => ?_
  obtain ⟨S, z, items, lks, z', e, h, q⟩ := h
  obtain ⟨⟨u1, z1⟩, h1, h⟩ := bnd h
  obtain ⟨⟨u2, z2⟩, h2, h⟩ := bnd h
  obtain ⟨d, r1, h⟩ := bnd h
  obtain ⟨d2, r2, h⟩ := bnd h
  obtain ⟨ds, hd, h⟩ := bnd h
  obtain ⟨es, hd2, h⟩ := bnd h
  cases h
  refine seqL e (us := [u1, u2]) (z1 := z2) (by show ((f z).bind _) = _; rw [h1]; show ((consE f1 nilE z1).bind _) = _; unfold consE; rw [h2]; rfl) fun vs H1 p => ?_
  obtain ⟨v1, vr, rfl, _, ⟨v2, vr, rfl, _, hr0, _⟩, _⟩ := id p.ru
  cases hr0
  obtain ⟨r, rfl, hr, nt⟩ := p.root0 e (l := lkOf u1 ++ lkOf u2) (fun _ h => List.mem_append_left _ h) r1 hd
  obtain ⟨w, rfl, hw, _⟩ := p.root2 e (l := lkOf u1 ++ lkOf u2) (fun _ h => List.mem_append_right _ h) r2 hd2
  obtain ⟨vs, k1, _⟩ := hr.sqX (p.erL _)
  obtain ⟨ws, k2, _⟩ := hw.sqX (p.erL _)
  exact ⟨r.isT, w.isT, r.at, w.at, vs, ws, rfl, k1, k2, q _ _ (Post.toI p ⟨_, src_zip, hr, hw⟩)⟩
/-! ### from the end -/
def ItvX (b : Bool) (K : PySem.W.Frag) (a : Addr) (n : Nat) : It := if b then RT.ItvT K a n else Itv K a n
theorem src_rev {K : PySem.W.Frag} {r : Root} {ds : List PyData} : Src K g (ItvX r.isT K r.at ds.length) ds.reverse (fun S σ H z => RootG K g ds S σ H z r) where
  go := fun S σ H z i e h hi => by
    rw [List.length_reverse] at hi
    cases nt : r.isT with
    | true =>
      obtain ⟨vs, h1, h2⟩ := h.tup nt
      have hj : ds.length - 1 - i < vs.length := by rw [h2.length]; omega
      exact ⟨hi, vs, vs[ds.length - 1 - i], h1, List.getElem?_eq_getElem hj⟩
    | false =>
      obtain ⟨vs, h1, h2⟩ := h.lst e nt
      have hj : ds.length - 1 - i < vs.length := by rw [h2.length]; omega
      exact ⟨hi, vs, vs[ds.length - 1 - i], SqL.of h1, List.getElem?_eq_getElem hj⟩
  stop := fun S σ H z i e h hi => by
    rw [List.length_reverse] at hi
    cases nt : r.isT with
    | true => exact Nat.le_of_eq hi.symm
    | false => exact Nat.le_of_eq hi.symm
  yld := fun S σ H z i x H' d e h hd y => by
    have hi : i < ds.length := by
      have := (List.getElem?_eq_some_iff.mp hd).1
      simpa using this
    rw [List.getElem?_reverse hi] at hd
    cases nt : r.isT with
    | true =>
      rw [nt] at y
      obtain ⟨vs, h1, h2⟩ := h.tup nt
      obtain ⟨rfl, y⟩ := y
      exact ⟨Ext.refl, get_rp h2 hd (y vs h1)⟩
    | false =>
      rw [nt] at y
      obtain ⟨vs, h1, h2⟩ := h.lst e nt
      obtain ⟨rfl, y⟩ := y
      exact ⟨Ext.refl, get_rp h2 hd (y vs (SqL.of h1))⟩
  keep := fun S σ H z S' σ' H' z' h kp ow hs lk => h.keep kp ow hs lk
theorem di_rev (hg : Gl X "reversed") (hm : X.mg "reversed" = none) (ha : PE X a (TEf X.K g f)) (hs : starEach [a] X.env = (false, eval a X.env) :: starEach [] X.env) : PI X tg (.Call (.Name "reversed" p) [a] [] pos) (WIf X.K g (itRev f)) := by
  refine piI (RT.pi_revA hg hm ha hs) fun σ H R h => ?_
  obtain ⟨S, z, items, lks, z', e, h, q⟩ := h
  obtain ⟨⟨u1, z1⟩, h1, h⟩ := bnd h
  obtain ⟨d, r1, h⟩ := bnd h
  obtain ⟨ds, hd, h⟩ := bnd h
  cases h
  refine seq1 e h1 fun v1 H1 p => ?_
  obtain ⟨r, rfl, hr, nt⟩ := p.root1 e (l := lkOf u1) (fun _ h => h) r1 hd
  have key := q _ _ (Post.toI p ⟨_, src_rev, hr⟩)
  cases nt : r.isT with
  | true =>
    obtain ⟨vs, k1, k2⟩ := hr.tup nt
    rw [nt, ← k2.length] at key
    exact ⟨r.at, vs, rfl, .inr ⟨k1, key⟩⟩
  | false =>
    obtain ⟨vs, k1, k2⟩ := hr.lst (p.erL _) nt
    rw [nt, ← k2.length] at key
    exact ⟨r.at, vs, rfl, .inl ⟨SqL.of k1, key⟩⟩
end
end Mz

set_option Elab.async false
set_option linter.all false
set_option maxRecDepth 100000
set_option autoImplicit false
/-! Mz13: targets, and what a block forgets. -/
namespace Mz
open PySem PySem.Spec L2
open PyProof.Rows hiding St

mutual
inductive Tg where
  | nm (i : Nat) | tup (ts : Tgs)
inductive Tgs where
  | nil | cons (t : Tg) (ts : Tgs)
end
def canSet (z : Z) (i : Nat) : Bool := match z.r[i]? with
  | some (.lck _) => false
  | some .bag => false
  | none => false
  | _ => true
mutual
def bindT : Tg → PyData → Z → Option Z
  | .nm i, d, z => ifc (canSet z i) (z.put i (.val d))
  | .tup ts, .tuple ds, z => bindTs ts ds z
  | .tup _, _, _ => none
def bindTs : Tgs → List PyData → Z → Option Z
  | .nil, [], z => some z
  | .cons t ts, d :: ds, z => (bindT t d z).bind fun z1 => bindTs ts ds z1
  | _, _, _ => none
end
mutual
def Tg.slots : Tg → List Nat
  | .nm i => [i]
  | .tup ts => ts.slots
def Tgs.slots : Tgs → List Nat
  | .nil => []
  | .cons t ts => t.slots ++ ts.slots
end
def Tgs.len : Tgs → Nat
  | .nil => 0
  | .cons _ ts => ts.len + 1
theorem bindTs_len : ∀ {ts : Tgs} {ds : List PyData} {z z' : Z}, bindTs ts ds z = some z' → ds.length = ts.len
  | .nil, [], _, _, _ => rfl
  | .cons t ts, d :: ds, z, z', h => by
    obtain ⟨z1, _, h⟩ := bnd (show (bindT t d z).bind _ = _ by simpa only [bindTs] using h)
    show ds.length + 1 = ts.len + 1
    rw [bindTs_len h]
  | .nil, _ :: _, _, _, h => by simp [bindTs] at h
  | .cons _ _, [], _, _, h => by simp [bindTs] at h

structure PostG (K : PySem.W.Frag) (g : Gb) (S : Av) (σ : St) (H : Hp) (z : Z) (l : List Nat) (z' : Z) (σ' : St) : Prop where
  er : ER K g S σ' H z'
  ow : ∀ a, Ow g σ' z'.r a → Ow g σ z.r a
  lk : LkS σ z.r σ' z'.r
  len : σ'.length = σ.length
  fix : ∀ j, j ∉ l → σ'[j]? = σ[j]?
def TGf (K : PySem.W.Frag) (g : Gb) (tg : Tg) : TG := fun v σ H R => ∃ S z d z', ER K g S σ H z ∧ Rp K (fun a => S a ∨ Ow g σ z.r a) H d v ∧ bindT tg d z = some z' ∧ ∀ σ', PostG K g S σ H z tg.slots z' σ' → R σ' H
def TGsf (K : PySem.W.Frag) (g : Gb) (ts : Tgs) : TGs := fun vs σ H R => ∃ S z ds z', ER K g S σ H z ∧ RpA K (fun a => S a ∨ Ow g σ z.r a) H ds vs ∧ bindTs ts ds z = some z' ∧ ∀ σ', PostG K g S σ H z ts.slots z' σ' → R σ' H
theorem pgI {X : Cx} {e : Expr} {t t' : TG} (h : PG X e t) (i : ∀ v σ H R, t' v σ H R → t v σ H R) : PG X e t' := ⟨fun pins s σ H v u Q I r q => h.run pins s σ H v u Q I r (i v σ H Q q)⟩
theorem pgsI {X : Cx} {e : List Expr} {t t' : TGs} (h : PGs X e t) (i : ∀ v σ H R, t' v σ H R → t v σ H R) : PGs X e t' := ⟨fun pins s σ H v u Q I r q => h.run pins s σ H v u Q I r (i v σ H Q q)⟩
section
variable {K : PySem.W.Frag} {g : Gb} {S T : Av} {σ : St} {H H' : Hp} {z z' : Z} {i : Nat} {d : PyData} {v : V} {s : Sl}
theorem canSet_lt (h : canSet z i = true) : i < z.r.length := by
  unfold canSet at h
  split at h
  · cases h
  · cases h
  · cases h
  · rename_i q
    rcases Nat.lt_or_ge i z.r.length with k | k
    · exact k
    · exact absurd (List.getElem?_eq_none k) q
theorem canSet_lck (h : canSet z i = true) (xs : List PyData) : z.r[i]? ≠ some (.lck xs) := fun e => by
  unfold canSet at h
  rw [e] at h
  cases h
theorem ow_set {x : Option V} (hs : ownL s = none) {a : Addr} (h : Ow g (σ.set i x) (z.put i s).r a) : Ow g σ z.r a := by
  rcases h with q | ⟨j, ys, o, e⟩
  · exact .inl q
  · rcases own_put o with ⟨n, o⟩ | ⟨_, k⟩
    · exact .inr ⟨j, ys, o, by rw [List.getElem?_set_ne (Ne.symm n)] at e; exact e⟩
    · rw [hs] at k; cases k
theorem lks_set {x : Option V} (h : ∀ xs, z.r[i]? ≠ some (Sl.lck xs)) : LkS σ z.r (σ.set i x) (z.put i s).r := fun j xs hj => by
  have n : i ≠ j := fun e => by subst e; exact h xs hj
  exact ⟨by show (z.r.set i s)[j]? = _; rw [List.getElem?_set_ne n]; exact hj, List.getElem?_set_ne n⟩
/-- the slot gets a value -/
theorem ER.setv (e : ER K g S σ H z) (hi : canSet z i = true) (r : Rp K (fun a => S a ∨ Ow g σ z.r a) H d v) : PostG K g S σ H z [i] (z.put i (.val d)) (σ.set i (some v)) := by
  have hl : i < σ.length := by rw [← e.len]; exact canSet_lt hi
  have ow : ∀ a, Ow g (σ.set i (some v)) (z.put i (.val d)).r a → Ow g σ z.r a := fun a q => ow_set rfl q
  have av : ∀ a, (S a ∨ Ow g (σ.set i (some v)) (z.put i (.val d)).r a) → (S a ∨ Ow g σ z.r a) := fun a q => q.elim .inl fun q => .inr (ow a q)
  refine ⟨⟨by simp [Z.put, e.len], e.trk, e.bag, fun j x hj => ?_, fun j xs oj => ?_, fun j k xs ys a o1 o2 s1 s2 => ?_, fun j hj => ?_⟩, ow, lks_set (canSet_lck hi), by simp, fun j hj => ?_⟩
  · rcases get_put hj with ⟨n, q⟩ | ⟨rfl, q⟩
    · obtain ⟨w, h1, h2⟩ := e.val j x q
      exact ⟨w, by rw [List.getElem?_set_ne (Ne.symm n)]; exact h1, h2.sub av⟩
    · cases q
      exact ⟨v, List.getElem?_set_self hl, r.sub av⟩
  · rcases own_put oj with ⟨n, q⟩ | ⟨_, q⟩
    · obtain ⟨a, vs, h1, h2, h3, h4, h5⟩ := e.own j xs q
      exact ⟨a, vs, by rw [List.getElem?_set_ne (Ne.symm n)]; exact h1, h2, h3, h4, h5.sub av⟩
    · cases q
  · rcases own_put o1 with ⟨n, q⟩ | ⟨_, q⟩
    · rcases own_put o2 with ⟨n', q'⟩ | ⟨_, q'⟩
      · rw [List.getElem?_set_ne (Ne.symm n)] at s1
        rw [List.getElem?_set_ne (Ne.symm n')] at s2
        exact e.dis j k xs ys a q q' s1 s2
      · cases q'
    · cases q
  · rcases get_put hj with ⟨n, q⟩ | ⟨rfl, q⟩
    · obtain ⟨b, c, h1, h2⟩ := e.bgs j q
      exact ⟨b, c, h1, by rw [List.getElem?_set_ne (Ne.symm n)]; exact h2⟩
    · cases q
  · exact List.getElem?_set_ne (fun q => hj (by rw [q]; exact List.mem_cons_self))
end
section
variable {X : Cx} {g : Gb} {pos : Pos}
theorem dg_name {i : Nat} {x : Str} (hN : X.N.Nodup) (hi : X.N[i]? = some x) (hx : Loc X.env.scope x) (hf : X.fn x = true ∨ X.env.scope.names.lookup x = some .local) : PG X (.Name x pos) (TGf X.K g (.nm i)) := by
  refine pgI (pg_name hN hi hx hf) fun v σ H R h => ?_
  obtain ⟨S, z, d, z', e, r, h, q⟩ := h
  obtain ⟨h1, h2⟩ := ifc_eq (show ifc (canSet z i) (z.put i (.val d)) = some z' by simpa only [bindT] using h)
  subst h2
  exact q _ (e.setv h1 r)
theorem dgs_nil : PGs X [] (TGsf X.K g .nil) := by
  refine pgsI pgs_nil fun vs σ H R h => ?_
  obtain ⟨S, z, ds, z', e, r, h, q⟩ := h
  cases ds with
  | cons _ _ => simp [bindTs] at h
  | nil =>
    simp only [bindTs, Option.some.injEq] at h
    subst h
    exact ⟨List.length_eq_zero_iff.mp r.length, q σ ⟨e, fun _ h => h, LkS.refl, rfl, fun _ _ => rfl⟩⟩
theorem dgs_cons {e : Expr} {es : List Expr} {t : Tg} {ts : Tgs} (h1 : PG X e (TGf X.K g t)) (h2 : PGs X es (TGsf X.K g ts)) (hs : (assignEach (e :: es) X.env).map (·.2) = assign e X.env :: (assignEach es X.env).map (·.2)) : PGs X (e :: es) (TGsf X.K g (.cons t ts)) := by
  refine pgsI (pgs_cons h1 h2 hs) fun vs σ H R h => ?_
  obtain ⟨S, z, ds, z', e, r, h, q⟩ := h
  cases ds with
  | nil => simp [bindTs] at h
  | cons d ds =>
    obtain ⟨z1, k1, h⟩ := bnd (show (bindT t d z).bind _ = _ by simpa only [bindTs] using h)
    rw [RpA] at r
    obtain ⟨v, vr, rfl, r1, r2⟩ := r
    refine ⟨v, vr, rfl, S, z, d, z1, e, r1, k1, fun σ1 p1 => ⟨S, z1, ds, z', p1.er, r2.sub fun a q => q.elim .inl fun q => .inr (p1.ow a q), h, fun σ2 p2 => q σ2 ⟨p2.er, fun a q => p1.ow a (p2.ow a q), p1.lk.trans p2.lk, p2.len.trans p1.len, fun j hj => ?_⟩⟩⟩
    have hj : j ∉ t.slots ++ ts.slots := hj
    rw [List.mem_append, not_or] at hj
    exact (p2.fix j hj.2).trans (p1.fix j hj.1)
theorem dg_tup {es : List Expr} {k : Nat} {ts : Tgs} (hc : X.calm = true) (h : PGs X es (TGsf X.K g ts)) (hn : (assignEach es X.env).length = ts.len) (hst : (assignEach es X.env).findIdx? (·.1) = none) : PG X (.Tuple es k pos) (TGf X.K g (.tup ts)) := by
  refine pgI (pg_tup hc h hn hst) fun v σ H R h => ?_
  obtain ⟨S, z, d, z', e, r, h, q⟩ := h
  cases d with
  | tuple ds =>
    have h : bindTs ts ds z = some z' := by simpa only [bindT] using h
    rw [Rp] at r
    obtain ⟨a, xs, rfl, r1, r2⟩ := r
    exact ⟨a, xs, rfl, r1, r2.length.trans (bindTs_len h), S, z, ds, z', e, r2, h, q⟩
  | _ => simp [bindT] at h
end

/-! ### what a block forgets -/
def wipeR (r : List Sl) : List Nat → List Sl
  | [] => r
  | v :: vs => (wipeR r vs).set v .no
def Z.wipe (z : Z) (vs : List Nat) : Z := ⟨wipeR z.r vs, z.b⟩
theorem wipeR_length (r : List Sl) : ∀ vs : List Nat, (wipeR r vs).length = r.length
  | [] => rfl
  | v :: vs => by unfold wipeR; rw [List.length_set, wipeR_length r vs]
theorem wipeR_out {r : List Sl} {i : Nat} : ∀ {vs : List Nat}, i ∉ vs → (wipeR r vs)[i]? = r[i]?
  | [], _ => rfl
  | v :: vs, h => by
    unfold wipeR
    rw [List.getElem?_set_ne fun e => h (by rw [e]; exact List.mem_cons_self)]
    exact wipeR_out fun m => h (List.mem_cons_of_mem _ m)
theorem wipeR_some {r : List Sl} {i : Nat} {s : Sl} : ∀ {vs : List Nat}, (wipeR r vs)[i]? = some s → s ≠ .no → r[i]? = some s ∧ i ∉ vs
  | [], h, _ => ⟨h, by simp⟩
  | v :: vs, h, n => by
    unfold wipeR at h
    by_cases hi : v = i
    · subst hi
      by_cases hv : v < (wipeR r vs).length
      · rw [List.getElem?_set_self hv] at h; cases h; exact absurd rfl n
      · rw [List.getElem?_eq_none (by simpa using hv)] at h; cases h
    · rw [List.getElem?_set_ne hi] at h
      obtain ⟨h1, h2⟩ := wipeR_some h n
      exact ⟨h1, by simp only [List.mem_cons, not_or]; exact ⟨fun e => hi e.symm, h2⟩⟩
theorem wipe_in {σ : St} {i : Nat} : ∀ {vs : List Nat}, i ∈ vs → i < σ.length → (wipe σ vs)[i]? = some none
  | v :: vs, h, hl => by
    unfold wipe
    by_cases e : v = i
    · subst e
      exact List.getElem?_set_self (by rw [wipe_length]; exact hl)
    · rw [List.getElem?_set_ne e]
      exact wipe_in ((List.mem_cons.mp h).resolve_left (Ne.symm e)) hl
/-- only what is forgotten was changed -/
theorem wipe_same {σ σ' : St} {vs l : List Nat} (hl : σ'.length = σ.length) (hf : ∀ j, j ∉ l → σ'[j]? = (wipe σ vs)[j]?) (hs : ∀ j ∈ l, j ∈ vs) : wipe σ' vs = wipe σ vs := by
  refine List.ext_getElem? fun j => ?_
  by_cases hj : j ∈ vs
  · by_cases hb : j < σ.length
    · rw [wipe_in hj hb, wipe_in hj (by rw [hl]; exact hb)]
    · rw [List.getElem?_eq_none (by rw [wipe_length, hl]; omega), List.getElem?_eq_none (by rw [wipe_length]; omega)]
  · rw [wipe_out hj]
    exact hf j fun m => hj (hs j m)
section
variable {K : PySem.W.Frag} {g : Gb} {S T : Av} {σ : St} {H H' H1 : Hp} {z z' zf : Z} {vs : List Nat}
theorem own_wipe {j : Nat} {xs : List PyData} (h : OwnAt (wipeR z.r vs) j xs) : OwnAt z.r j xs ∧ j ∉ vs := by
  obtain ⟨s, h1, h2⟩ := h
  obtain ⟨h3, h4⟩ := wipeR_some h1 fun e => by subst e; cases h2
  exact ⟨⟨s, h3, h2⟩, h4⟩
theorem ow_wipe {a : Addr} (h : Ow g (wipe σ vs) (z.wipe vs).r a) : Ow g σ z.r a := by
  rcases h with q | ⟨j, ys, o, e⟩
  · exact .inl q
  · exact .inr ⟨j, ys, (own_wipe o).1, by rw [wipe_out (own_wipe o).2] at e; exact e⟩
theorem ER.wipe (e : ER K g S σ H z) (vs : List Nat) : ER K g S (L2.wipe σ vs) H (z.wipe vs) where
  len := by show (wipeR z.r vs).length = _; rw [wipeR_length, wipe_length, e.len]
  trk := e.trk
  bag := e.bag
  val := fun i d hi => by
    obtain ⟨h1, h2⟩ := wipeR_some hi (by intro h; cases h)
    obtain ⟨v, k1, k2⟩ := e.val i d h1
    exact ⟨v, by rw [wipe_out h2]; exact k1, k2.sub fun a q => q.elim .inl fun q => .inr (ow_wipe q)⟩
  own := fun i xs o => by
    obtain ⟨o, n⟩ := own_wipe o
    obtain ⟨a, ws, k1, k2, k3, k4, k5⟩ := e.own i xs o
    exact ⟨a, ws, by rw [wipe_out n]; exact k1, k2, k3, k4, k5.sub fun a q => q.elim .inl fun q => .inr (ow_wipe q)⟩
  dis := fun i j xs ys a o1 o2 s1 s2 => by
    obtain ⟨o1, n1⟩ := own_wipe o1
    obtain ⟨o2, n2⟩ := own_wipe o2
    rw [wipe_out n1] at s1
    rw [wipe_out n2] at s2
    exact e.dis i j xs ys a o1 o2 s1 s2
  bgs := fun i hi => by
    obtain ⟨h1, h2⟩ := wipeR_some hi (by intro h; cases h)
    obtain ⟨b, c, k1, k2⟩ := e.bgs i h1
    exact ⟨b, c, k1, by rw [wipe_out h2]; exact k2⟩
theorem lks_wipe (h : ∀ i ∈ vs, ∀ xs, z.r[i]? ≠ some (Sl.lck xs)) : LkS σ z.r (wipe σ vs) (z.wipe vs).r := fun i xs hi => by
  have n : i ∉ vs := fun m => h i m xs hi
  exact ⟨by show (wipeR z.r vs)[i]? = _; rw [wipeR_out n]; exact hi, wipe_out n⟩
/-- own lists of the slots kept as values -/
def fzs : Z → List Nat → Option Z
  | z, [] => some z
  | z, i :: is => match z.r[i]? with
    | some (.own xs) => fzs (z.put i (.val (.list xs))) is
    | some (.val _) => fzs z is
    | some .no => fzs z is
    | _ => none
def Quiet (z : Z) (i : Nat) : Prop := z.r[i]? = some .no ∨ ∃ d, z.r[i]? = some (.val d)
theorem Quiet.put {i j : Nat} {d : PyData} (h : Quiet z i) (hj : z.r[j]? ≠ none) : Quiet (z.put j (.val d)) i := by
  by_cases e : j = i
  · subst e
    refine .inr ⟨d, List.getElem?_set_self ?_⟩
    rcases Nat.lt_or_ge j z.r.length with k | k
    · exact k
    · exact absurd (List.getElem?_eq_none k) hj
  · show (z.r.set j _)[i]? = _ ∨ ∃ x, (z.r.set j _)[i]? = _
    rw [List.getElem?_set_ne e]
    exact h
theorem fzs_ok : ∀ {is : List Nat} {z z' : Z}, ER K g S σ H z → fzs z is = some z' → ER K g S σ H z' ∧ (∀ a, Ow g σ z'.r a → Ow g σ z.r a) ∧ Lk z.r z'.r ∧ (∀ i ∈ is, Quiet z' i) ∧ ∀ i, Quiet z i → Quiet z' i
  | [], z, z', e, h => by
    cases h
    exact ⟨e, fun _ h => h, Lk.refl, by simp, fun _ h => h⟩
  | i :: is, z, z', e, h => by
    unfold fzs at h
    split at h
    · rename_i xs hx
      obtain ⟨k1, k2, _⟩ := e.fz hx
      obtain ⟨e1, o1, l1, q1, q2⟩ := fzs_ok k1 h
      have qi : Quiet (z.put i (.val (.list xs))) i := .inr ⟨_, List.getElem?_set_self (List.getElem?_eq_some_iff.mp hx).1⟩
      refine ⟨e1, fun a q => k2 a (o1 a q), (Lk.put fun ys q => by rw [hx] at q; cases q).trans l1, fun j hj => ?_, fun j hj => q2 j (hj.put (by rw [hx]; simp))⟩
      rcases List.mem_cons.mp hj with rfl | hj
      · exact q2 _ qi
      · exact q1 j hj
    · rename_i d hx
      obtain ⟨e1, o1, l1, q1, q2⟩ := fzs_ok e h
      refine ⟨e1, o1, l1, fun j hj => ?_, q2⟩
      rcases List.mem_cons.mp hj with rfl | hj
      · exact q2 _ (.inr ⟨d, hx⟩)
      · exact q1 j hj
    · rename_i hx
      obtain ⟨e1, o1, l1, q1, q2⟩ := fzs_ok e h
      refine ⟨e1, o1, l1, fun j hj => ?_, q2⟩
      rcases List.mem_cons.mp hj with rfl | hj
      · exact q2 _ (.inl hx)
      · exact q1 j hj
    · cases h
theorem Quiet.lck {i : Nat} (h : Quiet z i) (xs : List PyData) : z.r[i]? ≠ some (.lck xs) := fun e => by
  rcases h with h | ⟨d, h⟩ <;> rw [e] at h <;> cases h
theorem Quiet.own {i : Nat} (h : Quiet z i) {xs : List PyData} (o : OwnAt z.r i xs) : False := by
  obtain ⟨s, o1, o2⟩ := o
  rcases h with h | ⟨d, h⟩ <;> rw [o1] at h <;> cases h <;> cases o2
/-- what was forgotten comes back -/
def putBack (r0 r : List Sl) : List Nat → List Sl
  | [] => r
  | v :: vs => match r0[v]? with
    | some s => (putBack r0 r vs).set v s
    | none => putBack r0 r vs
theorem putBack_length (r0 r : List Sl) : ∀ vs : List Nat, (putBack r0 r vs).length = r.length
  | [] => rfl
  | v :: vs => by
    unfold putBack
    split
    · rw [List.length_set, putBack_length r0 r vs]
    · exact putBack_length r0 r vs
theorem putBack_out {r0 r : List Sl} {i : Nat} : ∀ {vs : List Nat}, i ∉ vs → (putBack r0 r vs)[i]? = r[i]?
  | [], _ => rfl
  | v :: vs, h => by
    have h1 : v ≠ i := fun e => h (by rw [e]; exact List.mem_cons_self)
    have h2 : i ∉ vs := fun m => h (List.mem_cons_of_mem _ m)
    unfold putBack
    split
    · rw [List.getElem?_set_ne h1]; exact putBack_out h2
    · exact putBack_out h2
theorem putBack_in {r0 r : List Sl} {i : Nat} (hl : r0.length = r.length) : ∀ {vs : List Nat}, i ∈ vs → (putBack r0 r vs)[i]? = r0[i]?
  | v :: vs, h => by
    unfold putBack
    by_cases e : v = i
    · subst e
      split
      · rename_i s hs
        rw [List.getElem?_set_self (by rw [putBack_length, ← hl]; exact (List.getElem?_eq_some_iff.mp hs).1)]
        exact hs.symm
      · rename_i hs
        rw [hs]
        refine List.getElem?_eq_none ?_
        rw [putBack_length, ← hl]
        exact List.getElem?_eq_none_iff.mp hs
    · have m := (List.mem_cons.mp h).resolve_left (Ne.symm e)
      split
      · rw [List.getElem?_set_ne e]; exact putBack_in hl m
      · exact putBack_in hl m
theorem own_back (hl : zf.r.length = z.r.length) (hq : ∀ i ∈ vs, Quiet zf i) {j : Nat} {xs : List PyData} (o : OwnAt (putBack zf.r z.r vs) j xs) : j ∉ vs ∧ OwnAt z.r j xs := by
  obtain ⟨s, o1, o2⟩ := o
  by_cases m : j ∈ vs
  · rw [putBack_in hl m] at o1
    exact absurd ⟨s, o1, o2⟩ fun o => (hq j m).own o
  · rw [putBack_out m] at o1
    exact ⟨m, s, o1, o2⟩
theorem ow_back (hl : zf.r.length = z.r.length) (hq : ∀ i ∈ vs, Quiet zf i) {a : Addr} (h : Ow g σ (putBack zf.r z.r vs) a) : Ow g (wipe σ vs) z.r a := by
  rcases h with q | ⟨j, ys, o, e⟩
  · exact .inl q
  · obtain ⟨n, o⟩ := own_back hl hq o
    exact .inr ⟨j, ys, o, by rw [wipe_out n]; exact e⟩
theorem ER.back {S0 : Av} (e0 : ER K g S0 σ H1 zf) (e : ER K g S (L2.wipe σ vs) H z) (kp : Kp (Ow g σ zf.r) H1 H) (ow : ∀ a, Ow g (L2.wipe σ vs) z.r a → Ow g σ zf.r a) (hs : ∀ a, S a → S0 a ∨ H1 a = none) (hq : ∀ i ∈ vs, Quiet zf i) : ER K g S σ H ⟨putBack zf.r z.r vs, z.b⟩ := by
  have hl : zf.r.length = z.r.length := by rw [e0.len, e.len, wipe_length]
  have av : ∀ a, (S a ∨ Ow g σ (putBack zf.r z.r vs) a) → (S a ∨ Ow g (L2.wipe σ vs) z.r a) := fun a q => q.elim .inl fun q => .inr (ow_back hl hq q)
  refine ⟨?_, e.trk, e.bag, fun i d hi => ?_, fun i xs o => ?_, fun i j xs ys a o1 o2 s1 s2 => ?_, fun i hi => ?_⟩
  · show (putBack zf.r z.r vs).length = _
    rw [putBack_length, e.len, wipe_length]
  · have hi : (putBack zf.r z.r vs)[i]? = _ := hi
    by_cases m : i ∈ vs
    · rw [putBack_in hl m] at hi
      obtain ⟨v, k1, k2⟩ := e0.val i d hi
      refine ⟨v, k1, k2.mv (fun a q => ?_) (kp.mono fun _ q => .inr q)⟩
      rcases q with q | q
      · exact (hs a q).elim (fun q => .inl (.inl q)) .inr
      · exact .inl (.inr (ow a (ow_back hl hq q)))
    · rw [putBack_out m] at hi
      obtain ⟨v, k1, k2⟩ := e.val i d hi
      exact ⟨v, by rw [wipe_out m] at k1; exact k1, k2.sub av⟩
  · obtain ⟨n, o⟩ := own_back hl hq o
    obtain ⟨a, ws, k1, k2, k3, k4, k5⟩ := e.own i xs o
    exact ⟨a, ws, by rw [wipe_out n] at k1; exact k1, k2, k3, k4, k5.sub av⟩
  · obtain ⟨n1, o1⟩ := own_back hl hq o1
    obtain ⟨n2, o2⟩ := own_back hl hq o2
    exact e.dis i j xs ys a o1 o2 (by rw [wipe_out n1]; exact s1) (by rw [wipe_out n2]; exact s2)
  · have hi : (putBack zf.r z.r vs)[i]? = _ := hi
    by_cases m : i ∈ vs
    · rw [putBack_in hl m] at hi
      rcases hq i m with q | ⟨d, q⟩ <;> rw [hi] at q <;> cases q
    · rw [putBack_out m] at hi
      obtain ⟨b, c, k1, k2⟩ := e.bgs i hi
      exact ⟨b, c, k1, by rw [wipe_out m] at k2; exact k2⟩
theorem lk_back (hl : zf.r.length = z.r.length) (hq : ∀ i ∈ vs, Quiet zf i) (h : Lk (zf.wipe vs).r z.r) : Lk zf.r (putBack zf.r z.r vs) := fun i xs hi => by
  have n : i ∉ vs := fun m => (hq i m).lck xs hi
  rw [putBack_out n]
  exact h i xs (by show (wipeR zf.r vs)[i]? = _; rw [wipeR_out n]; exact hi)
end
end Mz

set_option Elab.async false
set_option linter.all false
set_option maxRecDepth 100000
set_option autoImplicit false
/-! Mz14: comprehensions of one clause. -/
namespace Mz
open PySem PySem.Spec L2
open PyProof.Rows hiding St

def compGo (tg : Tg) (c e : MU) (vs : List Nat) : List PyData → Z → List PyData → Option (List PyData × Z)
  | [], z, acc => some (acc, z)
  | d :: ds, z, acc => (bindT tg d z).bind fun z1 => (c z1).bind fun p => (asB p.1).bind fun b =>
    if b then (e p.2).bind fun q => (esc q.2 q.1).bind fun w => (ifc (decide (acc.length < sizeLine)) ()).bind fun _ => compGo tg c e vs ds (w.2.wipe vs) (acc ++ [w.1])
    else compGo tg c e vs ds (p.2.wipe vs) acc
def compE (it : MI) (tg : Tg) (c e : MU) (vs : List Nat) : MU := fun z => (it z).bind fun (items, lks, z1) => (fzs (z1.lock lks) vs).bind fun zf => (compGo tg c e vs items (zf.wipe vs) []).bind fun (acc, ze) =>
  some (.nw acc, ⟨freeR z1.r (putBack zf.r ze.r vs) lks, ze.b⟩)

section
variable {K : PySem.W.Frag} {g : Gb} {S T : Av} {σ : St} {H H' H1 : Hp} {z z' zf : Z}
theorem kp_at {O : Av} {D : Addr} {c : HO} {xs : List V} (hD : O D) (hl : H D = some (.lst xs)) : Kp O H (upd H D c) := ⟨fun a u h o => by
  have n : a ≠ D := fun q => by
    subst q
    rw [hl] at h
    cases h
    exact o hD xs rfl
  rw [upd_ne n]; exact h, fun a h => by
  by_cases q : a = D
  · subst q; rw [upd_same]; exact fun k => nomatch k
  · rw [upd_ne q]; exact h⟩
/-- a change at an address that nothing reads -/
theorem ER.at (e : ER K g S σ H z) {D : Addr} {c : HO} (hD : S D) (hg : ¬ GbA g D) {xs : List V} (hl : H D = some (.lst xs)) : ER K g S σ (upd H D c) z := by
  have kp : Kp (fun a => S a ∨ Ow g σ z.r a) H (upd H D (c)) := kp_at (.inl hD) hl
  have up : ∀ a, a ≠ D → (upd H D c) a = H a := fun a n => upd_ne n
  refine ⟨e.len, fun a h => kp.tr a (e.trk a h), fun b c' hb => ?_, fun i d hi => ?_, fun i xs o => ?_, e.dis, e.bgs⟩
  · obtain ⟨n, p, q⟩ := e.bag b c' hb
    have n1 : b ≠ D := fun k => hg ⟨b, c', hb, .inl k.symm⟩
    have n2 : c' ≠ D := fun k => hg ⟨b, c', hb, .inr k.symm⟩
    exact ⟨n, by rw [up b n1]; exact p, by rw [up c' n2]; exact q⟩
  · obtain ⟨v, h1, h2⟩ := e.val i d hi
    exact ⟨v, h1, h2.mv (fun a q => .inl q) kp⟩
  · obtain ⟨a, ws, h1, h2, h3, h4, h5⟩ := e.own i xs o
    have n : a ≠ D := fun q => h2 (by rw [q]; exact hD)
    exact ⟨a, ws, h1, h2, h3, by rw [up a n]; exact h4, h5.mv (fun a q => .inl q) kp⟩
theorem ER.notOw (e : ER K g S σ H z) {D : Addr} (hD : S D) (hg : ¬ GbA g D) : ¬ Ow g σ z.r D := fun q => by
  rcases q with q | ⟨i, xs, o, s⟩
  · exact hg q
  · obtain ⟨a, ws, h1, h2, _⟩ := e.own i xs o
    rw [s] at h1; cases h1
    exact h2 hD

/-- what holds at the head of a turn -/
structure CI (K : PySem.W.Frag) (g : Gb) (S : Av) (σ : St) (vs : List Nat) (zf : Z) (H1 : Hp) (D : Addr) (G : Av → St → Hp → Z → Prop) (H : Hp) (zc : Z) (acc : List PyData) (ws : List V) : Prop where
  er : ER K g (fun a => S a ∨ a = D) (wipe σ vs) H zc
  gg : G (fun a => S a ∨ a = D) (wipe σ vs) H zc
  hd : H D = some (.lst ws)
  ra : RpA K (fun a => (S a ∨ a = D) ∨ Ow g (wipe σ vs) zc.r a) H acc ws
  kp : Kp (Ow g σ zf.r) H1 H
  ow : ∀ a, Ow g (wipe σ vs) zc.r a → Ow g σ zf.r a
  lk : Lk (zf.wipe vs).r zc.r
  nv : ∀ (i : Nat) (xs : List PyData), zc.r[i]? = some (Sl.lck xs) → i ∉ vs
variable {vs : List Nat} {D : Addr} {G : Av → St → Hp → Z → Prop} {zc : Z} {acc : List PyData} {ws : List V} {J : It} {items : List PyData}
theorem CI.next {σ2 : St} {zw : Z} (c : CI K g S σ vs zf H1 D G H zc acc ws) (src : Src K g J items G) (nG : ¬ GbA g D) (hw : wipe σ2 vs = wipe σ vs) (e : ER K g (fun a => S a ∨ a = D) σ2 H' zw) (kk : Kp (Ow g (wipe σ vs) zc.r) H H')
    (oo : ∀ a, Ow g σ2 zw.r a → Ow g (wipe σ vs) zc.r a) (ll : LkS (wipe σ vs) zc.r σ2 zw.r) : CI K g S σ vs zf H1 D G H' (zw.wipe vs) acc ws := by
  have kk' : Kp (fun a => (S a ∨ a = D) ∨ Ow g (wipe σ vs) zc.r a) H H' := kk.mono fun _ q => .inr q
  have ow : ∀ a, Ow g (wipe σ vs) (zw.wipe vs).r a → Ow g (wipe σ vs) zc.r a := fun a q => oo a (ow_wipe (σ := σ2) (vs := vs) (by rw [hw]; exact q))
  have nD : ¬ Ow g (wipe σ vs) zc.r D := c.er.notOw (.inr rfl) nG
  have lk1 : ∀ (i : Nat) (xs : List PyData), zc.r[i]? = some (Sl.lck xs) → (zw.wipe vs).r[i]? = some (Sl.lck xs) := fun i xs hi => by
    show (wipeR zw.r vs)[i]? = _
    rw [wipeR_out (c.nv i xs hi)]
    exact (ll i xs hi).1
  exact ⟨hw ▸ e.wipe vs, src.keep _ _ _ _ _ _ _ _ c.gg kk' (fun a q => .inl (ow a q)) (fun a q => .inl q) fun i xs hi => ⟨lk1 i xs hi, rfl⟩,
    kk.at' D _ c.hd fun o => absurd o nD, c.ra.mv (fun a q => .inl (q.elim .inl fun q => .inr (ow a q))) kk', c.kp.trans kk c.ow, fun a q => c.ow a (ow a q), fun i xs hi => lk1 i xs (c.lk i xs hi),
    fun i xs hi => (wipeR_some hi (by intro h; cases h)).2⟩
theorem CI.push {d : PyData} {v : V} (c : CI K g S σ vs zf H1 D G H zc acc ws) (src : Src K g J items G) (nG : ¬ GbA g D) (hD : H1 D = none) (r : Rp K (fun a => (S a ∨ a = D) ∨ Ow g (wipe σ vs) zc.r a) H d v) :
    CI K g S σ vs zf H1 D G (upd H D (.lst (ws ++ [v]))) zc (acc ++ [d]) (ws ++ [v]) := by
  have kk' : Kp (fun a => (S a ∨ a = D) ∨ Ow g (wipe σ vs) zc.r a) H (upd H D (.lst (ws ++ [v]))) := kp_at (.inl (.inr rfl)) c.hd
  refine ⟨c.er.at (.inr rfl) nG c.hd, src.keep _ _ _ _ _ _ _ _ c.gg kk' (fun a q => .inl q) (fun a q => .inl q) LkS.refl, upd_same, (c.ra.append (.cons r .nil)).mv (fun a q => .inl q) kk', ⟨fun a u h o => ?_, fun a h => kk'.tr a (c.kp.tr a h)⟩, c.ow, c.lk, c.nv⟩
  have n : a ≠ D := fun q => by subst q; rw [hD] at h; cases h
  rw [upd_ne n]
  exact c.kp.at' a u h o
end
section
variable {K : PySem.W.Frag} {g : Gb} {it : MI} {tg : Tg} {c e : MU} {vs : List Nat}
theorem lc_law (hsl : ∀ j ∈ tg.slots, j ∈ vs) {σ : St} {H : Hp} {Q : VK} (h : TEf K g (compE it tg c e vs) σ H Q) : tLc (WIf K g it) (TGf K g tg) (TTf K g c) (TEf K g e) vs σ H Q := by
  obtain ⟨S, z, u, z', er, h, q⟩ := h
  obtain ⟨⟨items, lks, z1⟩, hit, h⟩ := bnd h
  obtain ⟨zf, hf, h⟩ := bnd h
  obtain ⟨⟨accF, ze⟩, hgo, h⟩ := bnd h
  cases h
  refine ⟨S, z, items, lks, z1, er, hit, fun J H1 p D hD => ?_⟩
  obtain ⟨G, src, hG⟩ := p.src
  have nG : ¬ GbA g D := fun k => by
    obtain ⟨xs, k⟩ := p.er.owTrk D (.inl k)
    rw [hD] at k; cases k
  obtain ⟨ef, of, lf, qf, _⟩ := fzs_ok (p.er.alk (lock_alk lks z1.r)) hf
  have hG1 : G S σ H1 zf := src.keep _ _ _ _ _ _ _ _ hG Kp.refl (fun a q => .inl (of a q)) (fun a q => .inl q) lf.s
  have sn : ∀ a, (S a ∨ a = D) → S a ∨ H1 a = none := fun a q => q.elim .inl fun q => .inr (q ▸ hD)
  have x0 : Ext H1 (upd H1 D (.lst [])) := Ext.upd hD
  have c0 : CI K g S σ vs zf H1 D G (upd H1 D (.lst [])) (zf.wipe vs) [] [] := by
    have er0 : ER K g (fun a => S a ∨ a = D) σ (upd H1 D (.lst [])) zf := ef.mv (fun a q => by
      rcases q with q | q
      · exact x0.kp.tr (O := fun _ => False) a (ef.trk a q)
      · rw [q, upd_same]; exact fun k => nomatch k) sn x0
    exact ⟨er0.wipe vs, src.keep _ _ _ _ _ _ _ _ hG1 x0.kp (fun a q => .inl (ow_wipe q)) sn (lks_wipe fun i hi => (qf i hi).lck), upd_same, .nil, x0.kp, fun a q => ow_wipe q, Lk.refl, fun i xs hi => (wipeR_some hi (by intro h; cases h)).2⟩
  refine ⟨fun i m H => m = items.length - i ∧ i ≤ items.length ∧ ∃ zc acc ws, CI K g S σ vs zf H1 D G H zc acc ws ∧ compGo tg c e vs (items.drop i) zc acc = some (accF, ze), ⟨items.length, by simp, Nat.zero_le _, _, _, _, c0, hgo⟩, ?_⟩
  rintro i m H2 ⟨rfl, hi, zc, acc, ws, ci, hgo⟩
  by_cases hlt : i < items.length
  · refine .inr ⟨src.go _ _ _ _ i ci.er ci.gg hlt, fun H' => ∃ zc acc ws, CI K g S σ vs zf H1 D G H' zc acc ws ∧ compGo tg c e vs (items.drop (i + 1)) zc acc = some (accF, ze), fun H' nx => ⟨items.length - (i + 1), by omega, rfl, hlt, nx⟩, fun x H3 y => ?_⟩
    rw [List.drop_eq_getElem_cons hlt] at hgo
    obtain ⟨zb, hb, hgo⟩ := bnd (show (bindT tg _ zc).bind _ = _ from hgo)
    obtain ⟨⟨uc, zt⟩, hc, hgo⟩ := bnd hgo
    obtain ⟨b, hasb, hgo⟩ := bnd hgo
    have hasb := asB_eq hasb
    dsimp only at hasb
    subst hasb
    obtain ⟨x1, r1⟩ := src.yld _ _ _ _ i x H3 _ ci.er ci.gg (List.getElem?_eq_getElem hlt) y
    have er3 : ER K g (fun a => S a ∨ a = D) (wipe σ vs) H3 zc := ci.er.mv (fun a q => x1.kp.tr (O := fun _ => False) a (ci.er.trk a q)) (fun a q => .inl q) x1
    refine ⟨_, zc, _, zb, er3, r1, hb, fun σ2 pg => ?_⟩
    have hw : wipe σ2 vs = wipe σ vs := wipe_same (by rw [pg.len, wipe_length]) pg.fix hsl
    refine ⟨hw, _, zb, b, zt, pg.er, hc, fun H4 pt => ?_⟩
    have kk4 : Kp (Ow g (wipe σ vs) zc.r) H2 H4 := x1.kp.trans pt.kp pg.ow
    cases b with
    | false =>
      simp only [Bool.false_eq_true, if_false] at hgo ⊢
      exact ⟨_, _, _, ci.next src nG hw pt.er0 kk4 (fun a q => pg.ow a (pt.ow a q)) (pg.lk.trans pt.lk.s), hgo⟩
    | true =>
      simp only [if_true] at hgo ⊢
      obtain ⟨⟨u, zq⟩, hq, hgo⟩ := bnd hgo
      obtain ⟨⟨d', zw⟩, he, hgo⟩ := bnd hgo
      obtain ⟨_, hz, hgo⟩ := bnd hgo
      obtain ⟨hz, _⟩ := ifc_eq hz
      refine ⟨_, zt, u, zq, pt.er0, hq, fun v H5 pe => ?_⟩
      obtain ⟨e5, o5, r5, l5⟩ := pe.ru.esc pe.er (fun a t s => pt.er0.trk a s (pe.fr a t)) (fun a s => .inl s) he
      have oo : ∀ a, Ow g σ2 zw.r a → Ow g (wipe σ vs) zc.r a := fun a q => pg.ow a (pt.ow a (pe.ow a (o5 a q)))
      have cn := ci.next src nG hw (e5.sub fun a q => .inl q) (kk4.trans pe.kp fun a q => pg.ow a (pt.ow a q)) oo (pg.lk.trans ((pt.lk.trans pe.lk).trans l5).s)
      have cp := cn.push src nG hD (r5.sub fun a q => q.elim .inl fun q => .inr (ow_wipe (σ := σ2) (vs := vs) (by rw [hw]; exact q)))
      exact ⟨ws, cn.hd, by rw [ci.ra.length]; simpa using hz, _, _, _, cp, hgo⟩
  · have hi' : i = items.length := by omega
    subst hi'
    rw [List.drop_length] at hgo
    simp only [compGo, Option.some.injEq, Prod.mk.injEq] at hgo
    obtain ⟨e1, e2⟩ := hgo
    subst e1 e2
    have hl : zf.r.length = zc.r.length := by rw [ef.len, ci.er.len, wipe_length]
    refine .inl ⟨src.stop _ _ _ _ _ ci.er ci.gg rfl, q _ _ ?_⟩
    have eb := (ER.back ef ci.er ci.kp ci.ow sn qf).alk (free_alk lks z1.r (putBack zf.r zc.r vs))
    have ow : ∀ a, Ow g σ (freeR z1.r (putBack zf.r zc.r vs) lks) a → Ow g (wipe σ vs) zc.r a := fun a q => ow_back hl qf ((free_alk lks z1.r (putBack zf.r zc.r vs)).symm.ow q)
    have ow1 : ∀ a, Ow g σ zf.r a → Ow g σ z.r a := fun a q => p.ow a ((lock_alk lks z1.r).symm.ow (of a q))
    refine ⟨p.kp.trans ci.kp ow1, fun a q => ow1 a (ci.ow a (ow a q)), eb, ⟨D, ws, rfl, .inr rfl, nG, ci.hd, ci.ra.sub fun a q => q.elim .inl fun q => .inr (ow a q)⟩, fun a t => ?_, p.lk.trans (free_lk lks ?_)⟩
    · have t : a = D := t
      subst t
      cases k : H a with
      | none => rfl
      | some w => exact absurd hD (p.kp.tr a (by rw [k]; exact fun k => nomatch k))
    · exact ((lock_lk lks z1.r).trans lf).trans (lk_back hl qf ci.lk)
end
section
variable {X : Cx} {g : Gb}
theorem dts_nil : PTs X [] (TTf X.K g (cE (.bool true))) := by
  refine ⟨fun pins s σ H Q I h => (pts_nil (X := X)).run pins s σ H Q I ?_⟩
  obtain ⟨S, z, b, z', e, h, q⟩ := h
  cases h
  exact q H (Post.same e (show Rp X.K (fun a => S a ∨ Ow g σ z.r a) H (.bool true) (.bl true) by rw [Rp]) fun a t => t)
theorem de_lc {elt tg iter : Expr} {ifs : List Expr} {scope : Scope} {own : List (Str × Nat)} {pos : Pos} {it : MI} {t : Tg} {c e : MU} (hc : X.calm = true) (hN : X.N.Nodup) (hi : PI X tg iter (WIf X.K g it)) (ok : BlkOk X.N X.env.scope scope own)
    (hg : ∀ (s : Shared) (H : Hp) (C : Addr) (cl : List (Str × Addr)) (fp : List Addr), PG (X.blk s H scope (compEnvC scope cl C X.env) fp) tg (TGf X.K g t)) (ht : ∀ (s : Shared) (H : Hp) (C : Addr) (cl : List (Str × Addr)) (fp : List Addr), PTs (X.blk s H scope (compEnvC scope cl C X.env) fp) ifs (TTf X.K g c))
    (he : ∀ (s : Shared) (H : Hp) (C : Addr) (cl : List (Str × Addr)) (fp : List Addr), PE (X.blk s H scope (compEnvC scope cl C X.env) fp) elt (TEf X.K g e)) (hs : ∀ x, foldedSetIterable iter X.env x = pure x) (hsl : ∀ j ∈ t.slots, j ∈ own.map (·.2)) :
    PE X (.ListComp elt [⟨tg, iter, ifs, 0⟩] scope pos) (TEf X.K g (compE it t c e (own.map (·.2)))) :=
  peI (pe_lc hc hN hi ok hg ht he hs) fun σ H Q h => lc_law hsl h
end
end Mz

set_option Elab.async false
set_option linter.all false
set_option maxRecDepth 100000
set_option autoImplicit false
/-! Mz15: statements. -/
namespace Mz
open PySem PySem.Spec L2
open PyProof.Rows hiding St

inductive Fl where
  | nx (z : Z) | bk (z : Z) | ct (z : Z) | rt (r : R) (b : Bg)
abbrev MS := Z → Option Fl

structure PostS (K : PySem.W.Frag) (g : Gb) (S : Av) (σ : St) (H : Hp) (z : Z) (z' : Z) (σ' : St) (H' : Hp) : Prop where
  kp : Kp (Ow g σ z.r) H H'
  ow : ∀ a, Ow g σ' z'.r a → Ow g σ z.r a ∨ H a = none
  er : ER K g S σ' H' z'
  lk : LkS σ z.r σ' z'.r
def RR (K : PySem.W.Frag) (g : Gb) (S : Av) (H : Hp) : R → V → Prop
  | .d x, v => Rp K (fun a => S a ∨ GbA g a) H x v
  | .nw xs, v => ∃ a vs, v = .ref a ∧ ¬ S a ∧ ¬ GbA g a ∧ H a = some (.lst vs) ∧ RpA K (fun b => (S b ∨ GbA g b) ∨ b = a) H xs vs
def rtmp : R → V → Av
  | .nw _, .ref a => fun b => b = a
  | _, _ => fun _ => False
structure PostR (K : PySem.W.Frag) (g : Gb) (S : Av) (σ : St) (H : Hp) (z : Z) (r : R) (b : Bg) (v : V) (H' : Hp) : Prop where
  kp : Kp (Ow g σ z.r) H H'
  bag : BagOk g H' b
  rr : RR K g S H' r v
  fr : ∀ a, rtmp r v a → Ow g σ z.r a ∨ H a = none
  sk : ∀ a, S a → H' a ≠ none
def FinS (K : PySem.W.Frag) (g : Gb) (S : Av) (σ : St) (H : Hp) (z : Z) (D : Ends) : Fl → Prop
  | .nx z' => ∀ σ' H', PostS K g S σ H z z' σ' H' → D.nx σ' H'
  | .bk z' => ∀ σ' H', PostS K g S σ H z z' σ' H' → D.bk σ' H'
  | .ct z' => ∀ σ' H', PostS K g S σ H z z' σ' H' → D.ct σ' H'
  | .rt r b => ∀ v H', PostR K g S σ H z r b v H' → D.rt v H'
def TSf (K : PySem.W.Frag) (g : Gb) (m : MS) : TS := fun D σ H => ∃ S z f, ER K g S σ H z ∧ m z = some f ∧ FinS K g S σ H z D f

def skipS : MS := fun z => some (.nx z)
def brkS : MS := fun z => some (.bk z)
def cntS : MS := fun z => some (.ct z)
def seqS (a b : MS) : MS := fun z => (a z).bind fun
  | .nx z' => b z'
  | f => some f
def exprS (f : MU) : MS := fun z => (f z).bind fun p => some (.nx p.2)
def ifS (c : MU) (a b : MS) : MS := fun z => (c z).bind fun p => (asB p.1).bind fun t => if t then a p.2 else b p.2
/-- a value that goes into a slot -/
def resU (z : Z) : U → Option (R × Z)
  | .d x => some (.d x, z)
  | .nw xs => some (.nw xs, z)
  | .loc i => (esc z (.loc i)).bind fun p => some (.d p.1, p.2)
  | .bag => none
def stoR (z : Z) (i : Nat) : R → Option Z
  | .d x => ifc (canSet z i) (z.put i (.val x))
  | .nw xs => ifc (canSet z i) (z.put i (.own xs))
def resL : Z → List U → Option (List R × Z)
  | z, [] => some ([], z)
  | z, u :: us => (resU z u).bind fun p => (resL p.2 us).bind fun q => some (p.1 :: q.1, q.2)
def stoL : Z → List Nat → List R → Option Z
  | z, [], [] => some z
  | z, i :: is, r :: rs => (stoR z i r).bind fun z1 => stoL z1 is rs
  | _, _, _ => none
def parS (is : List Nat) (fl : ML) : MS := fun z => (fl z).bind fun p => (resL p.2 p.1).bind fun q => (stoL q.2 is q.1).bind fun z' => some (.nx z')
def setS (i : Nat) (f : MU) : MS := parS [i] (consE f nilE)
def retU (z : Z) : U → Option R
  | .d x => some (.d x)
  | .nw xs => some (.nw xs)
  | .loc i => match z.r[i]? with
    | some (.val x) => some (.d x)
    | some (.own xs) => some (.nw xs)
    | some (.lck xs) => some (.nw xs)
    | _ => none
  | .bag => none
def retS (f : MU) : MS := fun z => (f z).bind fun p => (retU p.2 p.1).bind fun r => some (.rt r p.2.b)

section
variable {K : PySem.W.Frag} {g : Gb} {S : Av} {σ σ1 : St} {H H1 : Hp} {z z1 : Z} {D D' : Ends}
theorem PostS.trans {σ2 : St} {H2 : Hp} {z2 : Z} (a : PostS K g S σ H z z1 σ1 H1) (b : PostS K g S σ1 H1 z1 z2 σ2 H2) : PostS K g S σ H z z2 σ2 H2 := by
  refine ⟨⟨fun x u h o => b.kp.at' x u (a.kp.at' x u h o) fun k => ?_, fun x h => b.kp.tr x (a.kp.tr x h)⟩, fun x h => ?_, b.er, a.lk.trans b.lk⟩
  · rcases a.ow x k with k | k
    · exact o k
    · rw [k] at h; cases h
  · rcases b.ow x h with h | h
    · exact a.ow x h
    · refine .inr ?_
      cases k : H x with
      | none => rfl
      | some u => exact absurd h (a.kp.tr x (by rw [k]; exact fun k => nomatch k))
theorem PostS.transR {r : R} {b : Bg} {v : V} {H2 : Hp} (a : PostS K g S σ H z z1 σ1 H1) (p : PostR K g S σ1 H1 z1 r b v H2) : PostR K g S σ H z r b v H2 := by
  refine ⟨⟨fun x u h o => p.kp.at' x u (a.kp.at' x u h o) fun k => ?_, fun x h => p.kp.tr x (a.kp.tr x h)⟩, p.bag, p.rr, fun x h => ?_, p.sk⟩
  · rcases a.ow x k with k | k
    · exact o k
    · rw [k] at h; cases h
  · rcases p.fr x h with h | h
    · exact a.ow x h
    · refine .inr ?_
      cases k : H x with
      | none => rfl
      | some u => exact absurd h (a.kp.tr x (by rw [k]; exact fun k => nomatch k))
/-- the end behind a step -/
theorem FinS.after (a : PostS K g S σ H z z1 σ1 H1) {f : Fl} (h : FinS K g S σ H z D f) : FinS K g S σ1 H1 z1 D f := by
  cases f with
  | nx z' => exact fun σ' H' p => h σ' H' (a.trans p)
  | bk z' => exact fun σ' H' p => h σ' H' (a.trans p)
  | ct z' => exact fun σ' H' p => h σ' H' (a.trans p)
  | rt r b => exact fun v H' p => h v H' (a.transR p)
theorem Post.toS {u : U} {v : V} (p : Post K g S σ H z u z1 v H1) : PostS K g S σ H z z1 σ H1 := ⟨p.kp, fun a h => .inl (p.ow a h), p.er0, p.lk.s⟩
theorem PostL.toS {us : List U} {vs : List V} (p : PostL K g S σ H z us z1 vs H1) : PostS K g S σ H z z1 σ H1 := ⟨p.kp, fun a h => .inl (p.ow a h), p.er.sub fun _ h => .inl h, p.lk.s⟩
theorem PostI.toS {items : List PyData} {lks : List Nat} {J : It} (p : PostI K g S σ H z items lks z1 J H1) : PostS K g S σ H z z1 σ H1 := ⟨p.kp, fun a h => .inl (p.ow a h), p.er, p.lk.s⟩
theorem PostG.toS {l : List Nat} (p : PostG K g S σ H z l z1 σ1) : PostS K g S σ H z z1 σ1 H := ⟨Kp.refl, fun a h => .inl (p.ow a h), p.er, p.lk⟩
theorem PostS.refl (e : ER K g S σ H z) : PostS K g S σ H z z σ H := ⟨Kp.refl, fun _ h => .inl h, e, LkS.refl⟩
/-- the slots read otherwise -/
theorem PostS.alk (e : ER K g S σ H z) {r' : List Sl} (h : Alk z.r r') (l : Lk z.r r') : PostS K g S σ H z ⟨r', z.b⟩ σ H := ⟨Kp.refl, fun a q => .inl (h.symm.ow q), e.alk h, l.s⟩

theorem ts_skip (h : TSf K g skipS D σ H) : tNext D σ H := by
  obtain ⟨S, z, f, e, h, q⟩ := h
  cases h
  exact q σ H (.refl e)
theorem ts_brk (h : TSf K g brkS D σ H) : tBreak D σ H := by
  obtain ⟨S, z, f, e, h, q⟩ := h
  cases h
  exact q σ H (.refl e)
theorem ts_cnt (h : TSf K g cntS D σ H) : tCont D σ H := by
  obtain ⟨S, z, f, e, h, q⟩ := h
  cases h
  exact q σ H (.refl e)
theorem ts_seq {a b : MS} (h : TSf K g (seqS a b) D σ H) : tSeq (TSf K g a) (TSf K g b) D σ H := by
  obtain ⟨S, z, f, e, h, q⟩ := h
  obtain ⟨f1, h1, h⟩ := bnd h
  refine ⟨S, z, f1, e, h1, ?_⟩
  cases f1 with
  | nx z1 => exact fun σ1 H1 p => ⟨S, z1, f, p.er, h, q.after p⟩
  | bk z1 => cases h; exact q
  | ct z1 => cases h; exact q
  | rt r b => cases h; exact q
theorem ts_expr {f : MU} (h : TSf K g (exprS f) D σ H) : tDrop (TEf K g f) D σ H := by
  obtain ⟨S, z, f', e, h, q⟩ := h
  obtain ⟨⟨u, z1⟩, h1, h⟩ := bnd h
  cases h
  exact ⟨S, z, u, z1, e, h1, fun v H1 p => q σ H1 p.toS⟩
theorem ts_if {c : MU} {a b : MS} (h : TSf K g (ifS c a b) D σ H) : tIfS (TTf K g c) (TSf K g a) (TSf K g b) D σ H := by
  obtain ⟨S, z, f', e, h, q⟩ := h
  obtain ⟨⟨u, z1⟩, h1, h⟩ := bnd h
  obtain ⟨t, h2, h⟩ := bnd h
  have h2 := asB_eq h2
  dsimp only at h2
  subst h2
  refine ⟨S, z, t, z1, e, h1, fun H1 p => ?_⟩
  cases t with
  | true => exact ⟨S, z1, f', p.er0, h, q.after p.toS⟩
  | false => exact ⟨S, z1, f', p.er0, h, q.after p.toS⟩
theorem RU.toR {T : Av} {u : U} {v : V} {r : R} (e : ER K g T σ H z) (hr : RU K g T σ H z u v) (ht : ∀ a, tmp u v a → ¬ S a) (hs : ∀ a, S a → T a) (h : retU z u = some r) : RR K g S H r v ∧ ∀ a, rtmp r v a → tmp u v a ∨ Ow g σ z.r a := by
  have gb : ∀ a, (S a ∨ GbA g a) → (T a ∨ Ow g σ z.r a) := fun a q => q.elim (fun q => .inl (hs a q)) fun q => .inr (.inl q)
  have slot : ∀ i xs, OwnAt z.r i xs → σ[i]? = some (some v) → RR K g S H (.nw xs) v ∧ ∀ a, rtmp (.nw xs) v a → Ow g σ z.r a := fun i xs o hv => by
    obtain ⟨a, ws, h1, h2, h3, h4, h5⟩ := e.own i xs o
    rw [hv] at h1; cases h1
    have oa : Ow g σ z.r a := .inr ⟨i, xs, o, hv⟩
    exact ⟨⟨a, ws, rfl, fun q => h2 (hs a q), h3, h4, h5.sub fun b q => q.elim (gb b) fun q => .inr (q ▸ oa)⟩, fun b q => (show b = a from q) ▸ oa⟩
  cases u with
  | d x =>
    cases h
    exact ⟨Rp.sub (show Rp K _ H x v from hr) gb, fun a q => q.elim⟩
  | nw xs =>
    cases h
    obtain ⟨a, ws, rfl, q1, q2, q3, q4⟩ := hr
    exact ⟨⟨a, ws, rfl, ht a rfl, q2, q3, q4.sub fun b q => q.elim (gb b) fun q => .inl (q ▸ q1)⟩, fun a q => .inl q⟩
  | loc i =>
    have hv : σ[i]? = some (some v) := hr
    simp only [retU] at h
    split at h
    · rename_i x hx
      cases h
      obtain ⟨w, h1, h2⟩ := e.val i _ hx
      rw [hv] at h1; cases h1
      exact ⟨h2.sub gb, fun a q => q.elim⟩
    · rename_i xs hx
      cases h
      obtain ⟨k1, k2⟩ := slot i _ ⟨_, hx, rfl⟩ hv
      exact ⟨k1, fun a q => .inr (k2 a q)⟩
    · rename_i xs hx
      cases h
      obtain ⟨k1, k2⟩ := slot i _ ⟨_, hx, rfl⟩ hv
      exact ⟨k1, fun a q => .inr (k2 a q)⟩
    · cases h
  | bag => cases h
theorem ts_ret {f : MU} (h : TSf K g (retS f) D σ H) : tRet (TEf K g f) D σ H := by
  obtain ⟨S, z, f', e, h, q⟩ := h
  obtain ⟨⟨u, z1⟩, h1, h⟩ := bnd h
  obtain ⟨r, h2, h⟩ := bnd h
  cases h
  refine ⟨S, z, u, z1, e, h1, fun v H1 p => q v H1 ?_⟩
  obtain ⟨k1, k2⟩ := p.ru.toR p.er (fun a t s => e.trk a s (p.fr a t)) (fun a s => .inl s) h2
  exact ⟨p.kp, p.er.bag, k1, fun a t => (k2 a t).elim (fun t => .inr (p.fr a t)) fun o => .inl (p.ow a o), fun a s => p.er.trk a (.inl s)⟩
theorem ts_retN (h : TSf K g (retS (cE .none)) D σ H) : tRetN D σ H := by
  obtain ⟨S, z, f', e, h, q⟩ := h
  cases h
  exact q .non H ⟨Kp.refl, e.bag, by show Rp K (fun a => S a ∨ GbA g a) H .none .non; rw [Rp], fun a q => q.elim, e.trk⟩

/-! ### stores -/
theorem tmp_u {r : R} {v : V} {a : Addr} : tmp r.u v a ↔ rtmp r v a := by
  cases r with
  | d x => exact Iff.rfl
  | nw xs => cases v <;> exact Iff.rfl
theorem RU.res {T : Av} {u : U} {v : V} {r : R} {z' : Z} (e : ER K g T σ H z) (hr : RU K g T σ H z u v) (h : resU z u = some (r, z')) :
    ER K g T σ H z' ∧ (∀ a, Ow g σ z'.r a → Ow g σ z.r a) ∧ RU K g T σ H z' r.u v ∧ Lk z.r z'.r ∧ ∀ a, rtmp r v a → tmp u v a := by
  cases u with
  | d x => cases h; exact ⟨e, fun _ q => q, hr, Lk.refl, fun a q => q⟩
  | nw xs => cases h; exact ⟨e, fun _ q => q, hr, Lk.refl, fun a q => tmp_u.mpr q⟩
  | loc i =>
    obtain ⟨⟨d, z1⟩, h1, h⟩ := bnd h
    cases h
    obtain ⟨k1, k2, k3, k4⟩ := RU.esc (S := T) e hr (fun a q => q.elim) (fun a q => q) h1
    exact ⟨k1, k2, k3, k4, fun a q => q⟩
  | bag => cases h
theorem RUL.res {T : Av} : ∀ {us : List U} {vs : List V} {z z' : Z} {rs : List R}, ER K g T σ H z → RUL K g T σ H z us vs → resL z us = some (rs, z') →
    ER K g T σ H z' ∧ (∀ a, Ow g σ z'.r a → Ow g σ z.r a) ∧ RUL K g T σ H z' (rs.map R.u) vs ∧ Lk z.r z'.r ∧ ∀ a, tmps (rs.map R.u) vs a → tmps us vs a
  | [], vs, z, z', rs, e, hr, h => by
    cases h
    exact ⟨e, fun _ q => q, hr, Lk.refl, fun a q => q⟩
  | u :: us, vs, z, z', rs, e, hr, h => by
    obtain ⟨v, vr, rfl, q1, q2, q3⟩ := hr
    obtain ⟨⟨r, z1⟩, h1, h⟩ := bnd h
    obtain ⟨⟨rs', z2⟩, h2, h⟩ := bnd h
    cases h
    obtain ⟨e1, o1, r1, l1, t1⟩ := q1.res e h1
    obtain ⟨e2, o2, r2, l2, t2⟩ := RUL.res e1 (q2.mv e Kp.refl o1 (fun _ h => h) fun _ h => .inl h) h2
    exact ⟨e2, fun a q => o1 a (o2 a q), ⟨v, vr, rfl, r1.mv e1 Kp.refl o2 (fun _ h => h) fun _ h => .inl h, r2, fun a k1 k2 => q3 a (t1 a (tmp_u.mp k1)) (t2 a k2)⟩, l1.trans l2, fun a q => q.elim (fun q => .inl (t1 a (tmp_u.mp q))) fun q => .inr (t2 a q)⟩
/-- a slot gets what was found -/
theorem ER.setr {T T' : Av} {i : Nat} {r : R} {v : V} {z' : Z} (e : ER K g T σ H z) (hr : RU K g T σ H z r.u v) (hT : ∀ b, T' b → T b) (hn : ∀ b, rtmp r v b → ¬ T' b) (h : stoR z i r = some z') :
    ER K g T' (σ.set i (some v)) H z' ∧ (∀ a, Ow g (σ.set i (some v)) z'.r a → Ow g σ z.r a ∨ rtmp r v a) ∧ LkS σ z.r (σ.set i (some v)) z'.r := by
  cases r with
  | d x =>
    obtain ⟨h1, h2⟩ := ifc_eq h
    subst h2
    have p := (e.sub hT).setv h1 (Rp.sub (show Rp K _ H x v from hr) fun a q => q.elim (fun q => .inl (hT a q)) .inr)
    exact ⟨p.er, fun a q => .inl (p.ow a q), p.lk⟩
  | nw xs =>
    obtain ⟨h1, h2⟩ := ifc_eq h
    subst h2
    obtain ⟨a, ws, rfl, q1, q2, q3, q4⟩ := hr
    have hl : i < σ.length := by rw [← e.len]; exact canSet_lt h1
    have na : ∀ {j ys}, OwnAt z.r j ys → σ[j]? ≠ some (some (V.ref a)) := fun {j ys} o k => by
      obtain ⟨b, us, k1, k2, _⟩ := e.own j ys o
      rw [k] at k1; cases k1
      exact k2 q1
    have ow : ∀ b, Ow g (σ.set i (some (V.ref a))) (z.put i (.own xs)).r b → Ow g σ z.r b ∨ b = a := fun b q => by
      rcases q with q | ⟨j, ys, o, s⟩
      · exact .inl (.inl q)
      · rcases own_put o with ⟨n, o⟩ | ⟨rfl, k⟩
        · rw [List.getElem?_set_ne (Ne.symm n)] at s
          exact .inl (.inr ⟨j, ys, o, s⟩)
        · rw [List.getElem?_set_self hl] at s
          cases s
          exact .inr rfl
    have av : ∀ b, (T' b ∨ Ow g (σ.set i (some (V.ref a))) (z.put i (.own xs)).r b) → (T b ∨ Ow g σ z.r b) := fun b q => by
      rcases q with q | q
      · exact .inl (hT b q)
      · exact (ow b q).elim .inr fun q => .inl (q ▸ q1)
    refine ⟨⟨by simp [Z.put, e.len], fun b q => e.trk b (hT b q), e.bag, fun j x hj => ?_, fun j ys oj => ?_, fun j k xs ys b o1 o2 s1 s2 => ?_, fun j hj => ?_⟩, fun b q => (ow b q).elim .inl .inr, lks_set (canSet_lck h1)⟩
    · rcases get_put hj with ⟨n, q⟩ | ⟨rfl, q⟩
      · obtain ⟨w, k1, k2⟩ := e.val j x q
        exact ⟨w, by rw [List.getElem?_set_ne (Ne.symm n)]; exact k1, k2.sub av⟩
      · cases q
    · rcases own_put oj with ⟨n, q⟩ | ⟨rfl, q⟩
      · obtain ⟨b, us, k1, k2, k3, k4, k5⟩ := e.own j ys q
        exact ⟨b, us, by rw [List.getElem?_set_ne (Ne.symm n)]; exact k1, fun t => k2 (hT b t), k3, k4, k5.sub av⟩
      · cases q
        exact ⟨a, ws, List.getElem?_set_self hl, hn a rfl, q2, q3, q4.sub av⟩
    · rcases own_put o1 with ⟨n1, p1⟩ | ⟨m1, p1⟩
      · rw [List.getElem?_set_ne (Ne.symm n1)] at s1
        rcases own_put o2 with ⟨n2, p2⟩ | ⟨m2, p2⟩
        · rw [List.getElem?_set_ne (Ne.symm n2)] at s2
          exact e.dis j k _ _ b p1 p2 s1 s2
        · rw [m2, List.getElem?_set_self hl] at s2
          cases s2
          exact absurd s1 (na p1)
      · rcases own_put o2 with ⟨n2, p2⟩ | ⟨m2, p2⟩
        · rw [m1, List.getElem?_set_self hl] at s1
          cases s1
          rw [List.getElem?_set_ne (Ne.symm n2)] at s2
          exact absurd s2 (na p2)
        · rw [m1, m2]
    · rcases get_put hj with ⟨n, q⟩ | ⟨rfl, q⟩
      · obtain ⟨b, c, k1, k2⟩ := e.bgs j q
        exact ⟨b, c, k1, by rw [List.getElem?_set_ne (Ne.symm n)]; exact k2⟩
      · cases q
/-- values found, seen from behind a store -/
theorem RU.hop {T T' : Av} {σ' : St} {z' : Z} {r : R} {v : V} (hr : RU K g T σ H z r.u v) (h1 : ∀ a, (T' a ∨ Ow g σ' z'.r a) → (T a ∨ Ow g σ z.r a)) (h2 : ∀ a, rtmp r v a → T' a) : RU K g T' σ' H z' r.u v := by
  cases r with
  | d x => exact Rp.sub (show Rp K _ H x v from hr) h1
  | nw xs =>
    obtain ⟨a, ws, rfl, q1, q2, q3, q4⟩ := hr
    exact ⟨a, ws, rfl, h2 a rfl, q2, q3, q4.sub h1⟩
theorem RUL.hop {T T' : Av} {σ' : St} {z' : Z} (h1 : ∀ a, (T' a ∨ Ow g σ' z'.r a) → (T a ∨ Ow g σ z.r a)) : ∀ {rs : List R} {vs : List V}, RUL K g T σ H z (rs.map R.u) vs → (∀ a, tmps (rs.map R.u) vs a → T' a) → RUL K g T' σ' H z' (rs.map R.u) vs
  | [], _, h, _ => h
  | r :: rs, vs, h, h2 => by
    obtain ⟨v, vr, rfl, q1, q2, q3⟩ := h
    exact ⟨v, vr, rfl, q1.hop h1 fun a q => h2 a (.inl (tmp_u.mpr q)), RUL.hop h1 q2 fun a q => h2 a (.inr q), q3⟩
def setL (σ : St) : List Nat → List V → St
  | i :: is, v :: vs => setL (σ.set i (some v)) is vs
  | _, _ => σ
theorem ER.stores {S : Av} : ∀ {is : List Nat} {rs : List R} {vs : List V} {σ : St} {z z' : Z}, ER K g (fun a => S a ∨ tmps (rs.map R.u) vs a) σ H z → RUL K g (fun a => S a ∨ tmps (rs.map R.u) vs a) σ H z (rs.map R.u) vs → (∀ a, tmps (rs.map R.u) vs a → ¬ S a) → stoL z is rs = some z' →
    vs.length = is.length ∧ ER K g S (setL σ is vs) H z' ∧ (∀ a, Ow g (setL σ is vs) z'.r a → Ow g σ z.r a ∨ tmps (rs.map R.u) vs a) ∧ LkS σ z.r (setL σ is vs) z'.r
  | [], [], vs, σ, z, z', e, hr, _, h => by
    cases h
    have hr : vs = [] := hr
    subst hr
    exact ⟨rfl, e.sub fun a q => .inl q, fun a q => .inl q, LkS.refl⟩
  | i :: is, r :: rs, vs, σ, z, z', e, hr, hn, h => by
    obtain ⟨v, vr, rfl, q1, q2, q3⟩ := hr
    obtain ⟨z1, h1, h⟩ := bnd h
    have hT : ∀ b, (S b ∨ tmps (rs.map R.u) vr b) → (S b ∨ tmps ((r :: rs).map R.u) (v :: vr) b) := fun b q => q.elim .inl fun q => .inr (.inr q)
    obtain ⟨e1, o1, l1⟩ := ER.setr (T' := fun b => S b ∨ tmps (rs.map R.u) vr b) (i := i) e q1 hT (fun b t k => k.elim (hn b (.inl (tmp_u.mpr t))) (q3 b (tmp_u.mpr t))) h1
    have av : ∀ a, ((S a ∨ tmps (rs.map R.u) vr a) ∨ Ow g (σ.set i (some v)) z1.r a) → ((S a ∨ tmps ((r :: rs).map R.u) (v :: vr) a) ∨ Ow g σ z.r a) := fun a q => by
      rcases q with q | q
      · exact .inl (hT a q)
      · exact (o1 a q).elim .inr fun q => .inl (.inr (.inl (tmp_u.mpr q)))
    obtain ⟨k0, k1, k2, k3⟩ := ER.stores (S := S) e1 (q2.hop av fun a q => .inr q) (fun a q => hn a (.inr q)) h
    refine ⟨by simp [k0], k1, fun a q => ?_, l1.trans k3⟩
    rcases k2 a q with q | q
    · exact (o1 a q).elim .inl fun q => .inr (.inl (tmp_u.mpr q))
    · exact .inr (.inr q)
  | [], _ :: _, _, _, _, _, _, _, _, h => by cases h
  | _ :: _, [], _, _, _, _, _, _, _, h => by cases h
theorem PostL.ext {us : List U} {vs : List V} {H2 : Hp} (p : PostL K g S σ H z us z1 vs H1) (x : Ext H1 H2) : PostL K g S σ H z us z1 vs H2 :=
  ⟨p.kp.trans (x.kp (O := Ow g σ z1.r)) p.ow, p.ow, p.er.mv (fun a t => x.kp.tr (O := fun _ => False) a (p.er.trk a t)) (fun a t => .inl t) x, p.ru.mv p.er x.kp (fun _ h => h) (fun _ h => h) fun _ h => .inl h, p.fr, p.lk⟩
theorem ts_par {is : List Nat} {fl : ML} (h : TSf K g (parS is fl) D σ H) : TAf K g fl σ H fun vs H1 => vs.length = is.length ∧ ∀ H2, Ext H1 H2 → D.nx (setL σ is vs) H2 := by
  obtain ⟨S, z, f', e, h, q⟩ := h
  obtain ⟨⟨us, z1⟩, h1, h⟩ := bnd h
  obtain ⟨⟨rs, z2⟩, h2, h⟩ := bnd h
  obtain ⟨z3, h3, h⟩ := bnd h
  cases h
  have key : ∀ vs H2, PostL K g S σ H z us z1 vs H2 → vs.length = is.length ∧ PostS K g S σ H z z3 (setL σ is vs) H2 := fun vs H2 p => by
    obtain ⟨e2, o2, r2, l2, t2⟩ := p.ru.res p.er h2
    have sb : ∀ a, (S a ∨ tmps (rs.map R.u) vs a) → (S a ∨ tmps us vs a) := fun a q => q.elim .inl fun q => .inr (t2 a q)
    obtain ⟨k0, k1, k2, k3⟩ := ER.stores (S := S) (e2.sub sb) (r2.hop (fun a q => q.elim (fun q => .inl (sb a q)) .inr) fun a q => .inr q) (fun a t s => e.trk a s (p.fr a (t2 a t))) h3
    refine ⟨k0, p.kp, fun a q => ?_, k1, (p.lk.trans l2).s.trans k3⟩
    rcases k2 a q with q | q
    · exact .inl (p.ow a (o2 a q))
    · exact .inr (p.fr a (t2 a q))
  exact ⟨S, z, us, z1, e, h1, fun vs H1 p => ⟨(key vs H1 p).1, fun H2 x => q _ _ (key vs H2 (p.ext x)).2⟩⟩
theorem ts_set {i : Nat} {f : MU} (h : TSf K g (setS i f) D σ H) : tAsg (TEf K g f) (gName i) D σ H := by
  obtain ⟨S, z, us, z1, e, h1, q⟩ := ts_par h
  obtain ⟨⟨u, z2⟩, k1, h2⟩ := bnd (show (f z).bind _ = _ from h1)
  cases h2
  refine ⟨S, z, u, _, e, k1, fun v H1 p => ?_⟩
  exact (q [v] H1 (.cons p (.nil p.er))).2 H1 Ext.refl

/-! ### xs[i] = v -/
def setIxS (i : Nat) (f ix : MU) : MS := fun z => (f z).bind fun p => (ownOf p.2 i).bind fun _ => (ix p.2).bind fun w => (rd w.2 w.1).bind fun d => (intD d).bind fun k => (esc w.2 p.1).bind fun q => (ownOf q.2 i).bind fun xs => (ixN xs.length k).bind fun j =>
  some (.nx (q.2.put i (.own (xs.set j q.1))))
theorem ts_setIx {i : Nat} {f ix : MU} (h : TSf K g (setIxS i f ix) D σ H) : tAsg (TEf K g f) (gSub (TEf K g (vE i)) (TEf K g ix) rSetL) D σ H := by
  obtain ⟨S, z, f', e, h, q⟩ := h
  obtain ⟨⟨u, za⟩, h1, h⟩ := bnd h
  obtain ⟨xs0, h2, h⟩ := bnd h
  obtain ⟨⟨w, zc⟩, h3, h⟩ := bnd h
  obtain ⟨d, r1, h⟩ := bnd h
  obtain ⟨k, hk, h⟩ := bnd h
  obtain ⟨⟨x, zd⟩, h4, h⟩ := bnd h
  obtain ⟨xs, h5, h⟩ := bnd h
  obtain ⟨j, h6, h⟩ := bnd h
  cases h
  have hk := intD_eq hk
  dsimp only at hk h1 h2 h3 h4 h5 h6 r1
  subst hk
  refine ⟨S, z, u, za, e, h1, fun v H1 p1 => ?_⟩
  refine ⟨_, za, .loc i, za, p1.er, vE_own h2, fun o H2 p2 => ?_⟩
  refine ⟨_, za, w, zc, p2.er0, h3, fun y H3 p3 => ?_⟩
  have nt : ∀ b, ¬ tmp (.loc i) o b := fun b t => t
  have p23 := Post.then nt p2 p3
  have pl : PostL K g S σ H z [u, w] zc [v, y] H3 := .cons p1 (.cons p23 (.nil p23.er))
  have hy := rdp_int (p3.ru.read p3.er r1)
  obtain ⟨_, _, e0, ru, _⟩ := pl.ru
  cases e0
  obtain ⟨e5, o5, r5, l5⟩ := RU.esc (S := S) pl.er ru (fun a t s => e.trk a s (pl.fr a (.inl t))) (fun a s => .inl s) h4
  have e5 : ER K g S σ H3 zd := e5.sub fun a s => .inl s
  obtain ⟨a, ws, k1, k2, k3⟩ := e5.ownAt h5
  have ho : σ[i]? = some (some o) := p2.ru
  rw [k1] at ho
  cases ho
  have hl : ws.length = xs.length := k3.length
  obtain ⟨e6, o6, kp6⟩ := e5.mut (ownOf_eq h5) k1 (RpA.set r5 j k3)
  refine ⟨a, ws, k, j, rfl, hy, k2, by rw [hl]; exact h6, q _ _ ?_⟩
  refine ⟨pl.kp.trans kp6 fun a q => pl.ow a (o5 a q), fun a q => .inl (pl.ow a (o5 a (o6 a q))), e6, ((pl.lk.trans l5).trans (Lk.put fun ys q => ?_)).s⟩
  rw [ownOf_eq h5] at q
  cases q

/-! ### for -/
theorem free1_at {r0 r : List Sl} {i j : Nat} {xs : List PyData} (h0 : r0[i]? = some (Sl.lck xs)) (h : r[i]? = some (Sl.lck xs)) : (free1 r0 r j)[i]? = some (Sl.lck xs) := by
  unfold free1
  split
  · rename_i a b
    by_cases e : j = i
    · subst e
      rw [h0] at a
      cases a
    · rw [List.getElem?_set_ne e]
      exact h
  · exact h
theorem free_lk' : ∀ (l : List Nat) {r0 r : List Sl} {i : Nat} {xs : List PyData}, r0[i]? = some (Sl.lck xs) → r[i]? = some (Sl.lck xs) → (freeR r0 r l)[i]? = some (Sl.lck xs)
  | [], _, _, _, _, _, h => h
  | j :: l, r0, r, i, xs, h0, h => free_lk' l h0 (free1_at h0 h)
def forGo (tg : Tg) (body : MS) : List PyData → Z → Option Fl
  | [], z => some (.nx z)
  | d :: ds, z => (bindT tg d z).bind fun z1 => (body z1).bind fun
    | .nx z2 => forGo tg body ds z2
    | .ct z2 => forGo tg body ds z2
    | .bk z2 => some (.nx z2)
    | .rt r b => some (.rt r b)
def frl (z0 : Z) (l : List Nat) : Fl → Fl
  | .nx z => .nx ⟨freeR z0.r z.r l, z.b⟩
  | f => f
def forS (it : MI) (tg : Tg) (body : MS) : MS := fun z => (it z).bind fun (items, lks, z1) => (forGo tg body items (z1.lock lks)).bind fun f => some (frl z1 lks f)
theorem ts_for {it : MI} {tg : Tg} {body : MS} (h : TSf K g (forS it tg body) D σ H) : tFor (WIf K g it) (TGf K g tg) (TSf K g body) D σ H := by
  obtain ⟨S, z, f, e, h, q⟩ := h
  obtain ⟨⟨items, lks, z1⟩, hit, h⟩ := bnd h
  obtain ⟨ff, hgo, h⟩ := bnd h
  cases h
  refine ⟨S, z, items, lks, z1, e, hit, fun J H1 p => ?_⟩
  obtain ⟨G, src, hG⟩ := p.src
  have al := lock_alk lks z1.r
  have ll := lock_lk lks z1.r
  have el : ER K g S σ H1 (z1.lock lks) := p.er.alk al
  have pl : PostS K g S σ H1 z1 (z1.lock lks) σ H1 := .alk p.er al ll
  have fin : ∀ {σ' H' z'}, PostS K g S σ H1 (z1.lock lks) z' σ' H' → PostS K g S σ H z ⟨freeR z1.r z'.r lks, z'.b⟩ σ' H' := fun {σ' H' z'} p' => by
    have p1 := pl.trans p'
    have al' := free_alk lks z1.r z'.r
    refine p.toS.trans ⟨p1.kp, fun a k => p1.ow a (al'.symm.ow k), p1.er.alk al', fun i xs hi => ?_⟩
    obtain ⟨k1, k2⟩ := p1.lk i xs hi
    refine ⟨?_, k2⟩
    exact free_lk' lks hi k1
  refine ⟨fun i m σ' H' => m = items.length - i ∧ i ≤ items.length ∧ ∃ z', PostS K g S σ H1 (z1.lock lks) z' σ' H' ∧ G S σ' H' z' ∧ forGo tg body (items.drop i) z' = some ff, ⟨items.length, by simp, Nat.zero_le _, _, .refl el, hG, hgo⟩, ?_⟩
  rintro i m σ2 H2 ⟨rfl, hi, z2, p2, g2, hgo⟩
  by_cases hlt : i < items.length
  · refine .inr ⟨src.go _ _ _ _ i p2.er g2 hlt, fun σ' H' => ∃ z', PostS K g S σ H1 (z1.lock lks) z' σ' H' ∧ G S σ' H' z' ∧ forGo tg body (items.drop (i + 1)) z' = some ff, fun σ' H' nx => ⟨items.length - (i + 1), by omega, rfl, hlt, nx⟩, fun x H3 y => ?_⟩
    rw [List.drop_eq_getElem_cons hlt] at hgo
    obtain ⟨zb, hb, hgo⟩ := bnd (show (bindT tg _ z2).bind _ = _ from hgo)
    obtain ⟨f1, hf, hgo⟩ := bnd hgo
    obtain ⟨x1, r1⟩ := src.yld _ _ _ _ i x H3 _ p2.er g2 (List.getElem?_eq_getElem hlt) y
    have er3 : ER K g S σ2 H3 z2 := p2.er.mv (fun a q => x1.kp.tr (O := fun _ => False) a (p2.er.trk a q)) (fun a q => .inl q) x1
    refine ⟨_, z2, _, zb, er3, r1, hb, fun σ3 pg => ⟨S, zb, f1, pg.er, hf, ?_⟩⟩
    have pb : PostS K g S σ2 H2 z2 zb σ3 H3 := PostS.trans ⟨x1.kp, fun a k => .inl k, er3, LkS.refl⟩ pg.toS
    have next : ∀ {z4 σ4 H4}, PostS K g S σ3 H3 zb z4 σ4 H4 → forGo tg body (items.drop (i + 1)) z4 = some ff → ∃ z', PostS K g S σ H1 (z1.lock lks) z' σ4 H4 ∧ G S σ4 H4 z' ∧ forGo tg body (items.drop (i + 1)) z' = some ff := fun {z4 σ4 H4} p4 h4 => by
      have p5 := pb.trans p4
      exact ⟨z4, p2.trans p5, src.keep _ _ _ _ _ _ _ _ g2 (p5.kp.mono fun a k => .inr k) p5.ow (fun a k => .inl k) p5.lk, h4⟩
    cases f1 with
    | nx z4 => exact fun σ4 H4 p4 => next p4 hgo
    | ct z4 => exact fun σ4 H4 p4 => next p4 hgo
    | bk z4 =>
      cases hgo
      exact fun σ4 H4 p4 => q _ _ (fin (p2.trans (pb.trans p4)))
    | rt r b =>
      cases hgo
      exact fun v H4 p4 => q _ _ (p.toS.transR (pl.transR (p2.transR (pb.transR p4))))
  · have hi' : i = items.length := by omega
    subst hi'
    rw [List.drop_length] at hgo
    cases hgo
    exact .inl ⟨src.stop _ _ _ _ _ p2.er g2 rfl, q _ _ (fin p2)⟩
end
end Mz

set_option Elab.async false
set_option linter.all false
set_option maxRecDepth 100000
set_option autoImplicit false
/-! Mz16: defs and calls. -/
namespace Mz
open PySem PySem.Spec L2
open PyProof.Rows hiding St

/-! ### a def's promise, where no guard stands around -/
abbrev SpG := List V → Hp → VK → Prop
structure FnG (P : Program) (w : World) (K : PySem.W.Frag) (mg : Str → Option Value) (base : Heap) (n : Nat) (f : Addr) (fd : FuncData) (ps : List Str) (sp : SpG) : Prop where
  len : ∀ vs H Q, sp vs H Q → vs.length = ps.length
  run : ∀ (A : Around) (os : List Env) (t : Shared) (H : Hp) (ar : Args) (us : List Value) (vs : List V) (Q : VK), Room n A → A.guards = some [] → Env0 P w K mg base A os t H → BindsTo t fd ar (ps.zip us) → Vals vs us → sp vs H Q →
    codeAny (model P w) A (.call (.ref f) ar) (CR CX0 os P w H t Q E0) t
section
variable {P : Program} {w : World} {K : PySem.W.Frag} {mg : Str → Option Value} {base : Heap} {n : Nat} {f : Addr} {fd : FuncData} {ps : List Str} {sp : SpG}
theorem FnG.weaken {sp' : SpG} (F : FnG P w K mg base n f fd ps sp) (h : ∀ vs H Q, sp' vs H Q → sp vs H Q) : FnG P w K mg base n f fd ps sp' :=
  ⟨fun vs H Q q => F.len vs H Q (h _ _ _ q), fun A os t H ar us vs Q r gd e b v q => F.run A os t H ar us vs Q r gd e b v (h _ _ _ q)⟩
theorem fn_g {x qual : Str} {st : Stmt} {N : List Str} (F : Fun K x qual st f fd) (S : FnScope N ps (defScope st)) (len : ∀ vs H Q, sp vs H Q → vs.length = ps.length)
    (body : ∀ (cdv : Value) (A : Around) (os : List Env) (t : Shared) (H : Hp) (vs : List V) (Q : VK), Room n (A.deeper (envOfC qual (defScope st) t.heap.objs.size f cdv)) → A.guards = some [] → sp vs H Q →
      ∃ T, PSs (cxOf CX0 P w K mg base N qual (defScope st) f cdv A os t H E0).nox (defBody st) T ∧ T { nx := fun _ H' => Q .non H', rt := Q } (L2.start N vs) H) : FnG P w K mg base (n + 1) f fd ps sp := by
  obtain ⟨oc, od, kV, doc, pm, an, cdv, ct, osl, rfl, lk, hcd⟩ := F.ex
  refine ⟨len, fun A os t H ar us vs Q hr gd e0 hb r hsp => ?_⟩
  have hl := len _ _ _ hsp
  have keep0 : ∀ b o, base.get? b = some o → t.heap.get? b = some o := fun b o e => (e0.bs b o e).1
  have hin : K.In t.heap := e0.mod.kin.keeps keep0
  have kinds : ∀ y ∈ ps.zip us, (defScope st).names.lookup y.1 = some .local ∨ ((defScope st).names.lookup y.1 = some .cell ∧ ((cellsFrom (t.heap.objs.size + 1) (defScope st).names []).lookup y.1).isSome = true) := by
    intro y hy
    rcases S.par y.1 (List.of_mem_zip (a := y.1) (b := y.2) hy).1 with k | k
    · exact .inl k
    · exact .inr ⟨k, PySem.W.cellsFrom_some _ _ _ (.inl k)⟩
  refine codeAny_call_function hr.depth (hin _ _ lk) rfl S.co S.gen rfl (PySem.W.codeRec_of hin hcd) (hb _ _ _ _ (wpAny_newFunctionEnv_cells S.kind kinds fun env he s1 x => ?_))
  subst he
  refine ⟨(e0.mod.nolimit.keeps keep0).keeps x.toInCall.keep, codeAny_func ?_⟩
  obtain ⟨T, hT, hq⟩ := body cdv A os t H vs Q (hr.deeper _) gd hsp
  have I := inv_start (CX := CX0) (E := E0) S hr.hd e0 hl r x
  refine wpAny_mono (hT.nox.run [] s1 (L2.start N vs) H _ I hq) (fun fl s' q => ?_) fun _ _ q => q
  cases fl with
  | next =>
    obtain ⟨σ', H', J, q⟩ := q
    exact ⟨V.non, H', J.os, J.bare, J.base, J.hok, rfl, q⟩
  | ret u =>
    obtain ⟨v, σ', H', J, rv, q⟩ := q
    exact ⟨v, H', J.os, J.bare, J.base, J.hok, rv, q⟩
  | brk =>
    obtain ⟨_, _, _, q⟩ := q
    exact False.elim q
  | cont =>
    obtain ⟨_, _, _, q⟩ := q
    exact False.elim q
end

/-! ### the call -/
section
variable {X : Cx} {n : Nat} {f : Addr} {fd : FuncData} {ps : List Str} {sp : SpG} {x : Str} {p pos : Pos} {e : Expr} {es : List Expr} {kws : List Keyword} {t tk : TA} {ks : List Str} {m : Nat}
theorem run_g {pins : List (Addr × Obj)} {σ : St} {H : Hp} {s : Shared} {Q : VK} {us ws : List Value} {vs zs : List V} (F : FnG X.prog X.w X.K X.mg X.base n f fd ps sp) (hr : Room n X.A) (gd : X.A.guards = some [])
    (hb : ∀ us ws : List Value, us.length + ws.length = ps.length → us.length = m → BindsTo s fd ⟨us, ks.zip ws⟩ (ps.zip (us ++ ws))) (hlen : us.length = m)
    (I : L2.Inv X pins σ H s) (r : Vals vs us) (rz : Vals zs ws) (h : sp (vs ++ zs) H Q) : wpAny (model X.prog X.w) X.A (call (.ref f) us (ks.zip ws)) (EP X pins σ Q) X.xe s := by
  have r2 := r.append rz
  have hl : us.length + ws.length = ps.length := by rw [← List.length_append, ← r2.length]; exact F.len _ _ _ h
  refine wpAny_call (codeAny_mono (F.run X.A X.stack s H _ (us ++ ws) (vs ++ zs) Q hr gd I.env0 (hb us ws hl hlen) r2 h) fun r s' q => ?_)
  cases r with
  | error e => exact q.elim
  | ok fl =>
    cases fl with
    | ret u => exact I.after q
    | _ => exact False.elim q
/-- what a written call reads: the positional arguments, then the keywords -/
def tCG (sp : SpG) (m : Nat) (t tk : TA) : TE := fun σ H Q => t σ H fun vs H1 => vs.length = m ∧ tk σ H1 fun zs H2 => sp (vs ++ zs) H2 Q
theorem pe_callG (F : FnG X.prog X.w X.K X.mg X.base n f fd ps sp) (hr : Room n X.A) (gd : X.A.guards = some []) (hg : Gl X x) (hm : X.mg x = some (.ref f)) (hk : PySem.W.keepIn X.K (.ref f) = true)
    (hb : ∀ (s : Shared) (us ws : List Value), us.length + ws.length = ps.length → us.length = m → BindsTo s fd ⟨us, ks.zip ws⟩ (ps.zip (us ++ ws))) (ha : PA X (e :: es) t) (hkw : PK X kws tk)
    (hdb : (x == ("__debug__" : Str)) = false) (hall : (backToKw pos (keywordEach kws X.env)).all (·.1.isSome) = true) (hks : (backToKw pos (keywordEach kws X.env)).filterMap (·.1) = ks)
    (hst : starEach (e :: es) X.env = (false, eval e X.env) :: starEach es X.env) (hpl : (backTo pos (starEach (e :: es) X.env)).any (·.1) = false) (hpk : (backToKw pos (keywordEach kws X.env)).any (·.1.isNone) = false) :
    PE X (.Call (.Name x p) (e :: es) kws pos) (tCG sp m t tk) := by
  refine ⟨fun pins s σ H Q I h => ?_⟩
  refine wpAny_Call_Name_kw (ld_glob I hg hm ?_ hdb)
  have both : ((backTo pos (starEach (e :: es) X.env)).any (·.1) || (backToKw pos (keywordEach kws X.env)).any (·.1.isNone)) = false := by rw [hpl, hpk] <;> rfl
  refine PySem.W.callWith_KW (h₀ := X.base) I.ok.mod.kin hk hall (thn (ha.run pos pins s σ H _ I h) fun us s1 ⟨vs, H1, I1, r1, hl, q⟩ => ?_) both hst
  refine thn (hkw.run pos pins s1 σ H1 _ I1 q) fun ws s2 ⟨zs, H2, I2, rz, q2⟩ => ⟨I2.kIn, ?_⟩
  rw [hks]
  exact run_g (us := us) F hr gd (hb s2) (by rw [← r1.length]; exact hl) I2 r1 rz q2
/-- .. keywords alone -/
def tCG0 (sp : SpG) (tk : TA) : TE := fun σ H Q => tk σ H fun zs H2 => sp zs H2 Q
theorem pe_callG0 (F : FnG X.prog X.w X.K X.mg X.base n f fd ps sp) (hr : Room n X.A) (gd : X.A.guards = some []) (hg : Gl X x) (hm : X.mg x = some (.ref f)) (hk : PySem.W.keepIn X.K (.ref f) = true)
    (hb : ∀ (s : Shared) (us ws : List Value), us.length + ws.length = ps.length → us.length = 0 → BindsTo s fd ⟨us, ks.zip ws⟩ (ps.zip (us ++ ws))) (hkw : PK X kws tk)
    (hdb : (x == ("__debug__" : Str)) = false) (hall : (backToKw pos (keywordEach kws X.env)).all (·.1.isSome) = true) (hks : (backToKw pos (keywordEach kws X.env)).filterMap (·.1) = ks)
    (hpk : (backToKw pos (keywordEach kws X.env)).any (·.1.isNone) = false) : PE X (.Call (.Name x p) [] kws pos) (tCG0 sp tk) := by
  refine ⟨fun pins s σ H Q I h => ?_⟩
  refine wpAny_Call_Name_kw (ld_glob I hg hm ?_ hdb)
  have both : ((backTo pos (starEach [] X.env)).any (·.1) || (backToKw pos (keywordEach kws X.env)).any (·.1.isNone)) = false := by rw [hpk] <;> rfl
  refine PySem.W.callWith_KW0 (h₀ := X.base) I.ok.mod.kin hk hall (thn (hkw.run pos pins s σ H _ I h) fun ws s2 ⟨zs, H2, I2, rz, q2⟩ => ⟨I2.kIn, ?_⟩) both
  rw [hks]
  exact run_g (us := []) (vs := []) F hr gd (hb s2) rfl I2 .nil rz q2
end

/-! ### the promise, by data -/
def argU (z : Z) : U → Option (A × Z)
  | .bag => some (.bag, z)
  | .d x => some (.d x, z)
  | .nw xs => some (.d (.list xs), z)
  | .loc i => (esc z (.loc i)).bind fun p => some (.d p.1, p.2)
def argL : Z → List U → Option (List A × Z)
  | z, [] => some ([], z)
  | z, u :: us => (argU z u).bind fun p => (argL p.2 us).bind fun q => some (p.1 :: q.1, q.2)
def ArgOk (K : PySem.W.Frag) (g : Gb) (T : Av) (H : Hp) : A → V → Prop
  | .d x, v => Rp K T H x v
  | .bag, v => ∃ b c, g = some (b, c) ∧ v = .ref b
def ArgsOk (K : PySem.W.Frag) (g : Gb) (T : Av) (H : Hp) : List A → List V → Prop
  | [], vs => vs = []
  | a :: as, vs => ∃ v r, vs = v :: r ∧ ArgOk K g T H a v ∧ ArgsOk K g T H as r
theorem ArgsOk.length {K : PySem.W.Frag} {g : Gb} {T : Av} {H : Hp} : ∀ {as : List A} {vs : List V}, ArgsOk K g T H as vs → vs.length = as.length
  | [], vs, h => by rw [show vs = [] from h]; rfl
  | a :: as, vs, h => by
    obtain ⟨v, r, rfl, _, q⟩ := h
    show r.length + 1 = as.length + 1
    rw [q.length]
structure PostC (K : PySem.W.Frag) (g : Gb) (S : Av) (H : Hp) (r : R) (b : Bg) (v : V) (H' : Hp) : Prop where
  kp : Kp (GbA g) H H'
  bag : BagOk g H' b
  rr : RR K g S H' r v
  fr : ∀ a, rtmp r v a → H a = none
  sk : ∀ a, S a → H' a ≠ none
def spU (K : PySem.W.Frag) (m : Nat) (c : List A → Bg → Option (R × Bg)) : SpG := fun vs H Q => ∃ g S as b r b', as.length = m ∧ ArgsOk K g (fun a => S a ∨ GbA g a) H as vs ∧ BagOk g H b ∧ (∀ a, S a → H a ≠ none) ∧ c as b = some (r, b') ∧ ∀ v H', PostC K g S H r b' v H' → Q v H'
def callE (c : List A → Bg → Option (R × Bg)) (fl fk : ML) : MU := fun z => (fl z).bind fun p => (fk p.2).bind fun q => (argL q.2 (p.1 ++ q.1)).bind fun w => (c w.1 w.2.b).bind fun r => some (r.1.u, ⟨w.2.r, r.2⟩)
section
variable {K : PySem.W.Frag} {g : Gb} {S T : Av} {σ : St} {H H1 H2 : Hp} {z z1 z2 : Z} {us ws : List U} {vs zs : List V}
theorem tmps_append : ∀ {us ws : List U} {vs zs : List V} {a : Addr}, RUL K g T σ H z us vs → (tmps (us ++ ws) (vs ++ zs) a ↔ (tmps us vs a ∨ tmps ws zs a))
  | [], ws, vs, zs, a, h => by
    rw [show vs = [] from h]
    exact ⟨.inr, fun t => t.elim (fun t => t.elim) id⟩
  | u :: us, ws, vs, zs, a, h => by
    obtain ⟨v, r, rfl, q1, q2, q3⟩ := h
    have ih := tmps_append (ws := ws) (zs := zs) (a := a) q2
    refine ⟨fun t => ?_, fun t => ?_⟩
    · rcases t with t | t
      · exact .inl (.inl t)
      · exact (ih.mp t).elim (fun t => .inl (.inr t)) .inr
    · rcases t with (t | t) | t
      · exact .inl t
      · exact .inr (ih.mpr (.inl t))
      · exact .inr (ih.mpr (.inr t))
theorem RUL.append : ∀ {us ws : List U} {vs zs : List V}, RUL K g T σ H z us vs → RUL K g T σ H z ws zs → (∀ a, tmps us vs a → ¬ tmps ws zs a) → RUL K g T σ H z (us ++ ws) (vs ++ zs)
  | [], ws, vs, zs, a, b, _ => by rw [show vs = [] from a]; exact b
  | u :: us, ws, vs, zs, a, b, n => by
    obtain ⟨v, r, rfl, q1, q2, q3⟩ := a
    refine ⟨v, r ++ zs, rfl, q1, RUL.append q2 b fun a t => n a (.inr t), fun a t1 t2 => ?_⟩
    exact ((tmps_append q2).mp t2).elim (q3 a t1) (n a (.inl t1))
theorem PostL.append (p : PostL K g S σ H z us z1 vs H1) (q : PostL K g (fun a => S a ∨ tmps us vs a) σ H1 z1 ws z2 zs H2) : PostL K g S σ H z (us ++ ws) z2 (vs ++ zs) H2 := by
  have ap : ∀ a, tmps (us ++ ws) (vs ++ zs) a ↔ (tmps us vs a ∨ tmps ws zs a) := fun a => tmps_append p.ru
  have nn : ∀ a, tmps ws zs a → H1 a = none := q.fr
  refine ⟨p.kp.trans q.kp p.ow, fun a h => p.ow a (q.ow a h), q.er.sub fun a h => h.elim (fun s => .inl (.inl s)) fun t => ((ap a).mp t).elim (fun t => .inl (.inr t)) .inr, ?_, fun a t => ?_, p.lk.trans q.lk⟩
  · refine RUL.append ?_ ?_ fun a t1 t2 => ?_
    · refine p.ru.mv p.er q.kp q.ow (fun a h => h.elim .inl fun t => .inr ((ap a).mpr (.inl t))) fun a h => ?_
      rcases h with h | h
      · exact .inl (.inl h)
      · exact ((ap a).mp h).elim (fun t => .inl (.inr t)) fun t => .inr (nn a t)
    · exact q.ru.mv q.er Kp.refl (fun _ h => h) (fun a h => h.elim (fun h => h.elim .inl fun t => .inr ((ap a).mpr (.inl t))) fun t => .inr ((ap a).mpr (.inr t))) fun a h => .inl (h.elim (fun s => .inl (.inl s)) fun t => ((ap a).mp t).elim (fun t => .inl (.inr t)) .inr)
    · exact absurd (nn a t2) (p.er.trk a (.inr t1))
  · rcases (ap a).mp t with t | t
    · exact p.fr a t
    · cases e : H a with
      | none => rfl
      | some o => exact absurd (nn a t) (p.kp.tr a (by rw [e]; exact fun z => nomatch z))
/-- what is handed over -/
theorem RU.arg {u : U} {v : V} {a : A} (e : ER K g T σ H z) (r : RU K g T σ H z u v) (ht : ∀ a, tmp u v a → ¬ S a) (hs : ∀ a, S a → T a) (h : argU z u = some (a, z1)) :
    ER K g T σ H z1 ∧ (∀ a, Ow g σ z1.r a → Ow g σ z.r a) ∧ ArgOk K g (fun a => S a ∨ Ow g σ z1.r a) H a v ∧ Lk z.r z1.r := by
  cases u with
  | d x =>
    cases h
    obtain ⟨k1, k2, k3, k4⟩ := RU.esc (S := S) (d := x) e r ht hs rfl
    exact ⟨k1, k2, k3, k4⟩
  | nw xs =>
    cases h
    obtain ⟨k1, k2, k3, k4⟩ := RU.esc (S := S) (d := .list xs) e r ht hs rfl
    exact ⟨k1, k2, k3, k4⟩
  | loc i =>
    obtain ⟨⟨d, z2⟩, h1, h⟩ := bnd h
    cases h
    obtain ⟨k1, k2, k3, k4⟩ := RU.esc (S := S) e r ht hs h1
    exact ⟨k1, k2, k3, k4⟩
  | bag =>
    cases h
    exact ⟨e, fun _ q => q, r, Lk.refl⟩
theorem ArgsOk.sub {T' : Av} (h : ∀ a, T' a → T a) : ∀ {as : List A} {vs : List V}, ArgsOk K g T H as vs → ArgsOk K g T' H as vs
  | [], _, q => q
  | .d x :: as, vs, q => by
    obtain ⟨v, r, e, q1, q2⟩ := q
    exact ⟨v, r, e, Rp.sub (show Rp K T H x v from q1) h, q2.sub h⟩
  | .bag :: as, vs, q => by
    obtain ⟨v, r, e, q1, q2⟩ := q
    exact ⟨v, r, e, q1, q2.sub h⟩
theorem RUL.args : ∀ {us : List U} {vs : List V} {z z1 : Z} {as : List A}, ER K g T σ H z → RUL K g T σ H z us vs → (∀ a, tmps us vs a → ¬ S a) → (∀ a, S a → T a) → argL z us = some (as, z1) →
    ER K g T σ H z1 ∧ (∀ a, Ow g σ z1.r a → Ow g σ z.r a) ∧ ArgsOk K g (fun a => S a ∨ Ow g σ z1.r a) H as vs ∧ Lk z.r z1.r
  | [], vs, z, z1, as, e, r, _, _, h => by
    cases h
    exact ⟨e, fun _ q => q, r, Lk.refl⟩
  | u :: us, vs, z, z1, as, e, r, ht, hs, h => by
    obtain ⟨v, r', rfl, q1, q2, _⟩ := r
    obtain ⟨⟨d, z2⟩, h1, h⟩ := bnd h
    obtain ⟨⟨ds', z3⟩, h2, h⟩ := bnd h
    cases h
    obtain ⟨e1, o1, r1, l1⟩ := RU.arg e q1 (fun a t => ht a (.inl t)) hs h1
    obtain ⟨e2, o2, r2, l2⟩ := RUL.args e1 (q2.mv e Kp.refl o1 (fun _ h => h) fun _ h => .inl h) (fun a t => ht a (.inr t)) hs h2
    refine ⟨e2, fun a q => o1 a (o2 a q), ⟨v, r', rfl, ?_, r2⟩, l1.trans l2⟩
    cases d with
    | d x => exact Rp.sub (show Rp K _ H x v from r1) fun a q => q.elim .inl fun q => .inr (o2 a q)
    | bag => exact r1
/-- behind a call, a state of one's own stands as it did -/
theorem ER.call {b : Bg} (e : ER K g S σ H z) (k : Kp (GbA g) H H1) (hb : BagOk g H1 b) (hT : ∀ a, T a → H1 a ≠ none) (h1 : ∀ a, T a → S a ∨ H a = none) : ER K g T σ H1 ⟨z.r, b⟩ where
  len := e.len
  trk := hT
  bag := hb
  val := fun i d hi => by
    obtain ⟨v, hv, r⟩ := e.val i d hi
    exact ⟨v, hv, r.mv (fun a q => q.elim (fun t => (h1 a t).elim (fun s => .inl (.inl s)) .inr) fun o => .inl (.inr o)) (k.mono fun a q => .inr (.inl q))⟩
  own := fun i xs hi => by
    obtain ⟨a, vs, hs, n1, n2, hl, r⟩ := e.own i xs hi
    refine ⟨a, vs, hs, fun t => (h1 a t).elim n1 fun z => ?_, n2, k.at' a _ hl fun q => absurd q n2, r.mv (fun a q => q.elim (fun t => (h1 a t).elim (fun s => .inl (.inl s)) .inr) fun o => .inl (.inr o)) (k.mono fun a q => .inr (.inl q))⟩
    rw [hl] at z; cases z
  dis := e.dis
  bgs := e.bgs
/-- the call's law: the promise gives what is left behind -/
theorem call_law {c : List A → Bg → Option (R × Bg)} {b' : Bg} {r : R} {as : List A} {z3 : Z} {R' : VK} {m : Nat} (e0 : ER K g S σ H z) (p : PostL K g S σ H z us z1 vs H1) (ha : argL z1 us = some (as, z3)) (hc : c as z3.b = some (r, b')) (hm : as.length = m)
    (k : ∀ v H', Post K g S σ H z r.u ⟨z3.r, b'⟩ v H' → R' v H') : spU K m c vs H1 R' := by
  obtain ⟨k1, k2, k3, k4⟩ := RUL.args (S := S) p.er p.ru (fun a t s => e0.trk a s (p.fr a t)) (fun a s => .inl s) ha
  have e3 : ER K g S σ H1 z3 := k1.sub fun a s => .inl s
  refine ⟨g, fun a => S a ∨ Ow g σ z3.r a, as, z3.b, r, b', hm, ?_, e3.bag, fun a s => e3.avTrk a s, hc, fun v H2 q => k v H2 ?_⟩
  · exact k3.sub fun a q => q.elim id fun q => .inr (.inl q)
  have kpO : Kp (Ow g σ z3.r) H1 H2 := q.kp.mono fun a h => .inl h
  have fr0 : ∀ a, rtmp r v a → H a = none := fun a t => by
    have h1 := q.fr a t
    cases e : H a with
    | none => rfl
    | some o => exact absurd h1 (p.kp.tr a (by rw [e]; exact fun z => nomatch z))
  have tr2 : ∀ a, (S a ∨ tmp r.u v a) → H2 a ≠ none := fun a t => by
    rcases t with t | t
    · exact q.sk a (.inl t)
    · cases r with
      | d x => exact t.elim
      | nw xs =>
        obtain ⟨b, ws, rfl, _, _, h4, _⟩ := q.rr
        rw [show a = b from t, h4]
        exact fun k => nomatch k
  refine ⟨p.kp.trans kpO fun a h => p.ow a (k2 a h), fun a h => p.ow a (k2 a h), e3.call q.kp q.bag tr2 fun a t => t.elim .inl fun t => .inr (q.fr a (tmp_u.mp t)), ?_, fun a t => fr0 a (tmp_u.mp t), p.lk.trans k4⟩
  cases r with
  | d x => exact Rp.sub (show Rp K _ H2 x v from q.rr) fun a h => h.elim (fun h => h.elim (fun s => .inl (.inl s)) fun t => t.elim) fun h => .inl (.inr h)
  | nw xs =>
    obtain ⟨b, ws, rfl, h2, h3, h4, h5⟩ := q.rr
    refine ⟨b, ws, rfl, .inr rfl, h3, h4, h5.sub fun a h => ?_⟩
    rcases h with (h | h) | h
    · exact .inl (.inl (.inl h))
    · exact .inr h
    · exact .inl (.inl (.inr h))
end

/-! ### the call as a reading -/
section
variable {X : Cx} {g : Gb} {n : Nat} {f : Addr} {fd : FuncData} {ps : List Str} {x : Str} {p pos : Pos} {e : Expr} {es : List Expr} {kws : List Keyword} {ks : List Str} {c : List A → Bg → Option (R × Bg)} {fl fk : ML}
theorem bnd_call {z : Z} {u : U} {z' : Z} (h : callE c fl fk z = some (u, z')) : ∃ us z1 ws z2 as z3 r b', fl z = some (us, z1) ∧ fk z1 = some (ws, z2) ∧ argL z2 (us ++ ws) = some (as, z3) ∧ c as z3.b = some (r, b') ∧ u = r.u ∧ z' = ⟨z3.r, b'⟩ := by
  obtain ⟨⟨us, z1⟩, h1, h⟩ := bnd h
  obtain ⟨⟨ws, z2⟩, h2, h⟩ := bnd h
  obtain ⟨⟨as, z3⟩, h3, h⟩ := bnd h
  obtain ⟨⟨r, b'⟩, h4, h⟩ := bnd h
  cases h
  exact ⟨us, z1, ws, z2, as, z3, r, b', h1, h2, h3, h4, rfl, rfl⟩
theorem RUL.length {K : PySem.W.Frag} {T : Av} {σ : St} {H : Hp} {z : Z} : ∀ {us : List U} {vs : List V}, RUL K g T σ H z us vs → vs.length = us.length
  | [], vs, h => by rw [show vs = [] from h]; rfl
  | u :: us, vs, h => by
    obtain ⟨v, r, rfl, _, q, _⟩ := h
    show r.length + 1 = us.length + 1
    rw [q.length]
theorem argL_len : ∀ {us : List U} {z z' : Z} {as : List A}, argL z us = some (as, z') → as.length = us.length
  | [], z, z', as, h => by cases h; rfl
  | u :: us, z, z', as, h => by
    obtain ⟨⟨d, z2⟩, h1, h⟩ := bnd h
    obtain ⟨⟨ds', z3⟩, h2, h⟩ := bnd h
    cases h
    show ds'.length + 1 = us.length + 1
    rw [argL_len h2]
/-- the lengths that an evaluation gives -/
def LenE (f : ML) (m : Nat) : Prop := ∀ z us z', f z = some (us, z') → us.length = m
theorem lenE_nil : LenE nilE 0 := fun z us z' h => by cases h; rfl
theorem lenE_cons {f : MU} {r : ML} {m : Nat} (h : LenE r m) : LenE (consE f r) (m + 1) := fun z us z' q => by
  obtain ⟨⟨u, z1⟩, h1, q⟩ := bnd (show (f z).bind _ = _ from q)
  obtain ⟨⟨ws, z2⟩, h2, q⟩ := bnd q
  cases q
  show ws.length + 1 = m + 1
  rw [h _ _ _ h2]
theorem de_call {m mk : Nat} (F : FnG X.prog X.w X.K X.mg X.base n f fd ps (spU X.K ps.length c)) (hr : Room n X.A) (gd : X.A.guards = some []) (hg : Gl X x) (hm : X.mg x = some (.ref f)) (hk : PySem.W.keepIn X.K (.ref f) = true)
    (hb : ∀ (s : Shared) (us ws : List Value), us.length + ws.length = ps.length → us.length = m → BindsTo s fd ⟨us, ks.zip ws⟩ (ps.zip (us ++ ws))) (ha : PA X (e :: es) (TAf X.K g fl)) (hkw : PK X kws (TAf X.K g fk))
    (hl : LenE fl m) (hlk : LenE fk mk) (hmm : m + mk = ps.length)
    (hdb : (x == ("__debug__" : Str)) = false) (hall : (backToKw pos (keywordEach kws X.env)).all (·.1.isSome) = true) (hks : (backToKw pos (keywordEach kws X.env)).filterMap (·.1) = ks)
    (hst : starEach (e :: es) X.env = (false, eval e X.env) :: starEach es X.env) (hpl : (backTo pos (starEach (e :: es) X.env)).any (·.1) = false) (hpk : (backToKw pos (keywordEach kws X.env)).any (·.1.isNone) = false) :
    PE X (.Call (.Name x p) (e :: es) kws pos) (TEf X.K g (callE c fl fk)) := by
  refine peI (pe_callG F hr gd hg hm hk hb ha hkw hdb hall hks hst hpl hpk) fun σ H Q h => ?_
  obtain ⟨S, z, u, z', e0, h, q⟩ := h
  obtain ⟨us, z1, ws, z2, as, z3, r, b', h1, h2, h3, h4, rfl, rfl⟩ := bnd_call h
  refine ⟨S, z, us, z1, e0, h1, fun vs H1 p1 => ⟨p1.ru.length.trans (hl _ _ _ h1), _, z1, ws, z2, p1.er, h2, fun zs H2 p2 => ?_⟩⟩
  refine call_law e0 (p1.append p2) h3 h4 ?_ fun v H' pp => q v H' pp
  rw [argL_len h3, List.length_append, hl _ _ _ h1, hlk _ _ _ h2, hmm]
theorem de_call0 (F : FnG X.prog X.w X.K X.mg X.base n f fd ps (spU X.K ps.length c)) (hr : Room n X.A) (gd : X.A.guards = some []) (hg : Gl X x) (hm : X.mg x = some (.ref f)) (hk : PySem.W.keepIn X.K (.ref f) = true)
    (hb : ∀ (s : Shared) (us ws : List Value), us.length + ws.length = ps.length → us.length = 0 → BindsTo s fd ⟨us, ks.zip ws⟩ (ps.zip (us ++ ws))) (hkw : PK X kws (TAf X.K g fk)) (hlk : LenE fk ps.length)
    (hdb : (x == ("__debug__" : Str)) = false) (hall : (backToKw pos (keywordEach kws X.env)).all (·.1.isSome) = true) (hks : (backToKw pos (keywordEach kws X.env)).filterMap (·.1) = ks)
    (hpk : (backToKw pos (keywordEach kws X.env)).any (·.1.isNone) = false) : PE X (.Call (.Name x p) [] kws pos) (TEf X.K g (callE c nilE fk)) := by
  refine peI (pe_callG0 F hr gd hg hm hk hb hkw hdb hall hks hpk) fun σ H Q h => ?_
  obtain ⟨S, z, u, z', e0, h, q⟩ := h
  obtain ⟨us, z1, ws, z2, as, z3, r, b', h1, h2, h3, h4, rfl, rfl⟩ := bnd_call h
  cases h1
  refine ⟨S, z, ws, z2, e0, h2, fun zs H2 p2 => ?_⟩
  refine call_law e0 p2 h3 h4 ?_ fun v H' pp => q v H' pp
  rw [argL_len h3, List.nil_append, hlk _ _ _ h2]
theorem dk_nil : PK X [] (TAf X.K g nilE) := ⟨fun pos pins s σ H Q I h => pk_nil.run pos pins s σ H Q I (by
  obtain ⟨S, z, us, z', e, h, q⟩ := h
  cases h
  exact q [] H (.nil e))⟩
theorem dk_cons {a : Expr} {nm : Option Str} {kpos : Pos} {f : MU} (ha : PE X a (TEf X.K g f)) (hr : PK X kws (TAf X.K g fl)) : PK X (⟨nm, a, kpos⟩ :: kws) (TAf X.K g (consE f fl)) := ⟨fun pos pins s σ H Q I h => (pk_cons ha hr).run pos pins s σ H Q I (by
  obtain ⟨S, z, us, z', e, h, q⟩ := h
  obtain ⟨⟨u1, z1⟩, h1, h⟩ := bnd h
  obtain ⟨⟨us', z2⟩, h2, h⟩ := bnd h
  cases h
  exact ⟨S, z, u1, z1, e, h1, fun v1 H1 p1 => ⟨_, z1, us', z2, p1.er, h2, fun vs H2 p2 => q _ _ (.cons p1 p2)⟩⟩)⟩
end

/-! ### a def's body -/
def slot0 : A → Sl
  | .d x => .val x
  | .bag => .bag
def init (n : Nat) (as : List A) (b : Bg) : Z := ⟨as.map slot0 ++ List.replicate (n - as.length) .no, b⟩
def endF : Fl → Option (R × Bg)
  | .nx z => some (.d .none, z.b)
  | .rt r b => some (r, b)
  | _ => none
def runD (n : Nat) (m : MS) (as : List A) (b : Bg) : Option (R × Bg) := (m (init n as b)).bind endF
section
variable {K : PySem.W.Frag} {g : Gb} {S T : Av} {H : Hp}
theorem ArgsOk.get : ∀ {as : List A} {vs : List V} {i : Nat} {a : A}, ArgsOk K g T H as vs → as[i]? = some a → ∃ v, vs[i]? = some v ∧ ArgOk K g T H a v
  | b :: as, vs, i, a, h, e => by
    obtain ⟨v, r, rfl, h1, h2⟩ := h
    cases i with
    | zero =>
      cases e
      exact ⟨v, rfl, h1⟩
    | succ i => exact h2.get (i := i) e
  | [], vs, i, a, h, e => by cases e
theorem init_get {n i : Nat} {as : List A} {b : Bg} {s : Sl} (h : (init n as b).r[i]? = some s) (hs : s ≠ .no) : ∃ a, as[i]? = some a ∧ s = slot0 a := by
  have h : (as.map slot0 ++ List.replicate (n - as.length) Sl.no)[i]? = some s := h
  by_cases hi : i < as.length
  · rw [List.getElem?_append_left (by simpa using hi), List.getElem?_map] at h
    obtain ⟨a, h1, h2⟩ := Option.map_eq_some_iff.mp h
    exact ⟨a, h1, h2.symm⟩
  · rw [List.getElem?_append_right (by simpa using hi), List.getElem?_replicate] at h
    split at h
    · cases h; exact absurd rfl hs
    · cases h
theorem init_own {n i : Nat} {as : List A} {b : Bg} {xs : List PyData} (h : OwnAt (init n as b).r i xs) : False := by
  obtain ⟨s, h1, h2⟩ := h
  obtain ⟨a, _, e⟩ := init_get h1 fun q => by subst q; cases h2
  subst e
  cases a <;> cases h2
theorem start_get {N : List Str} {vs : List V} {i : Nat} {v : V} (h : vs[i]? = some v) : (L2.start N vs)[i]? = some (some v) := by
  unfold L2.start
  have hi := (List.getElem?_eq_some_iff.mp h).1
  rw [List.getElem?_append_left (by simpa using hi), List.getElem?_map, h] <;> rfl
theorem er_start {N : List Str} {as : List A} {vs : List V} {b : Bg} (ha : ArgsOk K g (fun a => S a ∨ GbA g a) H as vs) (hb : BagOk g H b) (hs : ∀ a, S a → H a ≠ none) : ER K g S (L2.start N vs) H (init N.length as b) ∧ ∀ a, Ow g (L2.start N vs) (init N.length as b).r a → GbA g a := by
  have ow : ∀ a, Ow g (L2.start N vs) (init N.length as b).r a → GbA g a := fun a h => h.elim id fun ⟨i, xs, o, _⟩ => (init_own o).elim
  refine ⟨⟨?_, hs, hb, fun i d hi => ?_, fun i xs o => (init_own o).elim, fun i j xs ys a o => (init_own o).elim, fun i hi => ?_⟩, ow⟩
  · show (as.map slot0 ++ List.replicate (N.length - as.length) Sl.no).length = (vs.map some ++ List.replicate (N.length - vs.length) none).length
    simp [ha.length]
  · obtain ⟨a, h1, h2⟩ := init_get hi (by intro h; cases h)
    obtain ⟨v, h3, h4⟩ := ha.get h1
    cases a with
    | bag => cases h2
    | d x =>
      cases h2
      exact ⟨v, start_get h3, Rp.sub (show Rp K _ H _ v from h4) fun a q => q.elim .inl fun q => .inr (ow a q)⟩
  · obtain ⟨a, h1, h2⟩ := init_get hi (by intro h; cases h)
    obtain ⟨v, h3, h4⟩ := ha.get h1
    cases a with
    | d x => cases h2
    | bag =>
      obtain ⟨p, c, e1, e2⟩ := h4
      exact ⟨p, c, e1, by rw [start_get h3, e2]⟩
end
section
variable {P : Program} {w : World} {K : PySem.W.Frag} {mg : Str → Option Value} {base : Heap} {n : Nat} {f : Addr} {fd : FuncData} {ps : List Str}
theorem fn_body {x qual : Str} {st : Stmt} {N : List Str} {m : MS} (F : Fun K x qual st f fd) (S : FnScope N ps (defScope st))
    (body : ∀ (cdv : Value) (A : Around) (os : List Env) (t : Shared) (H : Hp) (g : Gb), Room n (A.deeper (envOfC qual (defScope st) t.heap.objs.size f cdv)) → A.guards = some [] → PSs (cxOf CX0 P w K mg base N qual (defScope st) f cdv A os t H E0).nox (defBody st) (TSf K g m)) :
    FnG P w K mg base (n + 1) f fd ps (spU K ps.length (runD N.length m)) := by
  refine fn_g F S (fun vs H Q h => ?_) fun cdv A os t H vs Q hr gd h => ?_
  · obtain ⟨g, T, as, b, r, b', h1, h2, _⟩ := h
    rw [h2.length, h1]
  · obtain ⟨g, T, as, b, r, b', h1, h2, h3, h4, h5, q⟩ := h
    refine ⟨_, body cdv A os t H g hr gd, ?_⟩
    obtain ⟨f1, h6, h7⟩ := bnd h5
    obtain ⟨e, ow⟩ := er_start (N := N) h2 h3 h4
    refine ⟨T, _, f1, e, h6, ?_⟩
    cases f1 with
    | nx z' =>
      cases h7
      refine fun σ' H' p => q .non H' ⟨p.kp.mono ow, p.er.bag, ?_, fun a k => k.elim, p.er.trk⟩
      show Rp K (fun a => T a ∨ GbA g a) H' .none .non
      rw [Rp]
    | rt r b =>
      cases h7
      refine fun v H' p => q v H' ⟨p.kp.mono ow, p.bag, p.rr, fun a k => ?_, p.sk⟩
      rcases p.fr a k with k' | k'
      · cases r with
        | d x => exact k.elim
        | nw xs =>
          obtain ⟨c, ws, rfl, _, ng, _⟩ := p.rr
          exact absurd (ow a k') (by rw [show a = c from k]; exact ng)
      · exact k'
    | bk z' => cases h7
    | ct z' => cases h7
end
end Mz

set_option Elab.async false
set_option linter.all false
set_option maxRecDepth 100000
set_option maxHeartbeats 1000000
set_option autoImplicit false
/-! Mz17: list(reversed(x)). -/
namespace Mz
open PySem PySem.Spec PyProof.Rows RT
section
variable {prog : Program} {w : World} {A : Around} {E : Value → Shared → Prop} {s : Shared}
theorem extend_rev {R : Result → Shared → Prop} {it l S : Addr} {items : Array Value} {res : Value} {c₀ : Nat} (hh : A.handled = none) (hit : s.heap.IsRevIter it l ((items.size : Int) - 1)) (hl : s.heap.IsList l items) (hne : l ≠ it) (hn : items.size ≤ sizeLine)
    (hS : s.heap.get? S = some { cls := .type "list", data := .seq #[] c₀ }) (hSi : S ≠ it) (hSl : S ≠ l)
    (hR : ∀ (h' : Heap) (tk : Nat) (ac : Array Value) (c' : Nat), (∀ b o, b ≠ S → b ≠ it → s.heap.get? b = some o → h'.get? b = some o) → h'.get? S = some { cls := .type "list", dict := none, data := .seq ac c', slots := #[] } →
      ItemsOf (fun i v => items[items.size - 1 - i]? = some v) ac items.size → R (.ok (.ret res)) { s with heap := h', toks := tk }) :
    wpAny (model prog w) A.in1 (Builtin.List.listExtendWith (.ref S) (.ref it) res)
      (fun fin s' => match fin with | .done f => R (.ok f) s' | .again c' => c'.quiet = true ∧ codeAny (model prog w) A c' R s') (fun e s' => R (.error e) s') s := by
  have W := (Walks.listRev (prog := prog) (w := w) (A := A.in1) hh it l hne items).toS
  have away : S ∉ [it, l] := by
    intro m
    rcases List.mem_cons.mp m with m | m
    · exact hSi m
    · exact hSl (List.mem_singleton.mp m)
  have ty : s.TypeIs (.ref it) "list_reverseiterator" := hit.typeIs
  have same : Builtin.List.listSameRef (.ref S) (.ref it) = false := by simp [Builtin.List.listSameRef, hSi]
  unfold Builtin.List.listExtendWith
  refine wpAny_bind (wpAny_typeOf ty ?_)
  rw [if_neg (by rw [same]; decide)]
  refine wpAny_bind (wpAny_pyIter_revIter hit (wpAny_bind (wpAny_holding ?_)))
  unfold Builtin.List.listLengthHint
  refine wpAny_bind (wpAny_specialOf ty nolen_lri ?_)
  show wpAny _ A.in1 (specialOf (Value.ref it) (Str.ofString "__length_hint__") >>= _) _ _ _
  refine wpAny_bind (wpAny_specialOf ty hint_lri ?_)
  generalize hq : ("list_reverseiterator.__length_hint__" : String) = q
  wp_delta
  rw [show splitId q = some ("list_reverseiterator", "__length_hint__") from by subst hq; decide +kernel]
  subst hq
  refine wpAny_bind (wpAny_isInstance (b := true) ty (by rw [isSubtype_type]; kernel_rfl) (wpAny_pure ?_))
  rw [if_neg (by decide)]
  have start0 : ((items.size : Nat) : Int) - 1 - ((0 : Nat) : Int) = (items.size : Int) - 1 := by omega
  refine wpAny_pure ⟨plainId_quiet F.plain_extend_loop _, codeAny_extend_loopS W hn S away res items.size 0 _ _ _ rfl (Nat.zero_le _) ⟨Nat.zero_le _, by rw [start0]; exact hit, hl⟩ hS (ItemsOf.nil _) fun s' ac c' mv hS' ha => ?_⟩
  rw [Moved.eq_with mv]
  refine hR s'.heap s'.toks ac c' (fun b o n1 n2 e => mv.heap b o (fun m => ?_) e) hS' ha
  rcases List.mem_cons.mp m with m | m
  · exact n1 m
  · exact n2 (List.mem_singleton.mp m)
theorem init_rev {R : Result → Shared → Prop} {it l S : Addr} {items : Array Value} (hh : A.handled = none) (hit : s.heap.IsRevIter it l ((items.size : Int) - 1)) (hl : s.heap.IsList l items) (hne : l ≠ it) (hn : items.size ≤ sizeLine)
    (hS : s.heap.get? S = some { cls := .type "list", data := .seq #[] }) (hSi : S ≠ it) (hSl : S ≠ l)
    (hR : ∀ (h' : Heap) (tk : Nat) (ac : Array Value) (c' : Nat), (∀ b o, b ≠ S → b ≠ it → s.heap.get? b = some o → h'.get? b = some o) → h'.get? S = some { cls := .type "list", dict := none, data := .seq ac c', slots := #[] } →
      ItemsOf (fun i v => items[items.size - 1 - i]? = some v) ac items.size → R (.ok (.ret .none)) { s with heap := h', toks := tk }) :
    wpAny (model prog w) A.in1 (Builtin.«list.__init__» ⟨[.ref S, .ref it], []⟩)
      (fun fin s' => match fin with | .done f => R (.ok f) s' | .again c' => c'.quiet = true ∧ codeAny (model prog w) A c' R s') (fun e s' => R (.error e) s') s := by
  show wpAny _ _ (do let gone ← Builtin.List.listItems (.ref S); Builtin.List.listUpdate (.ref S) (fun _ => #[]); letGo gone.toList.reverse; Builtin.List.listExtendWith (.ref S) (.ref it) .none) _ _ s
  refine wpAny_bind ?_
  unfold Builtin.List.listItems
  refine wpAny_bind (wpAny_seqItems hS rfl (wpAny_pure ?_))
  show wpAny _ _ (updateSeq S (fun _ => #[]) >>= fun _ => letGo (#[] : Array Value).toList.reverse >>= fun _ => Builtin.List.listExtendWith (.ref S) (.ref it) .none) _ _ s
  refine wpAny_bind (wpAny_updateSeq hS rfl ?_)
  have hS2 := Heap.get?_update_self (Obj.mapSeq (fun _ => (#[] : Array Value))) hS rfl
  have others : ∀ b o, b ≠ S → s.heap.get? b = some o → (s.heap.update S (Obj.mapSeq (fun _ => (#[] : Array Value)))).get? b = some o := fun b o n e => (Heap.get?_update_other _ _ (Ne.symm n)).trans e
  refine wpAny_bind (wpAny_letGo ?_)
  refine extend_rev hh (hit.at fun o e => others _ o (Ne.symm hSi) e) ?_ hne hn hS2 hSi hSl fun h' tk ac c' k hS' ha => hR h' tk ac c' (fun b o n1 n2 e => k b o n1 n2 (others b o n1 e)) hS' ha
  obtain ⟨o, ho, r⟩ := hl
  exact ⟨o, others _ o (Ne.symm hSl) ho, r⟩
theorem call_list_rev {it l : Addr} {items : Array Value} {Q : Value → Shared → Prop} (hh : A.handled = none) (hit : s.heap.IsRevIter it l ((items.size : Int) - 1)) (hl : s.heap.IsList l items) (hne : l ≠ it) (hn : items.size ≤ sizeLine)
    (hQ : ∀ (h' : Heap) (tk : Nat) (ac : Array Value) (c' : Nat), (∀ b o, b ≠ it → s.heap.get? b = some o → h'.get? b = some o) → h'.get? s.heap.objs.size = some { cls := .type "list", dict := none, data := .seq ac c', slots := #[] } →
      ItemsOf (fun i v => items[items.size - 1 - i]? = some v) ac items.size → Q (.ref s.heap.objs.size) { s with heap := h', toks := tk }) :
    wpAny (model prog w) A (call (.type "list") [.ref it]) Q E s := by
  obtain ⟨oi, hoi, _⟩ := id hit
  obtain ⟨ol, hol, _⟩ := id hl
  refine callType_codes (Q₁ := fun ob t => ob = .ref s.heap.objs.size ∧ t = { s with heap := s.heap.push { cls := .type "list", data := .seq #[] } }) F.called_list (F.typeCall_list_1 _) F.entry_list_init (code_list_new _ ⟨rfl, rfl⟩) fun ob t k => ?_
  obtain ⟨rfl, rfl⟩ := k
  have hS : (s.heap.push { cls := .type "list", data := .seq #[] }).get? s.heap.objs.size = some { cls := .type "list", data := .seq #[] } := Heap.get?_push_size _ rfl
  refine ⟨⟨_, hS, rfl⟩, F.args_list_init_2 _ _, init_rev (A := A.in1) hh (hit.at fun o e => Heap.get?_push_of_some _ e) (hl.push _) hne hn hS (Nat.ne_of_gt (Heap.lt_size hoi)) (Nat.ne_of_gt (Heap.lt_size hol)) fun h' tk ac c' k hS' ha => ?_⟩
  exact ⟨rfl, hQ h' tk ac c' (fun b o n e => k b o (Nat.ne_of_lt (Heap.lt_size e)) n (Heap.get?_push_of_some _ e)) hS' ha⟩
end
end Mz

namespace Mz
open PySem PySem.Spec L2
open PyProof.Rows hiding St
/-- list(reversed(e)), e a list -/
def tListRev (K : PySem.W.Frag) (te : TE) : TE := fun σ H Q => te σ H fun v H1 => ∃ a xs, v = .ref a ∧ SqL K H1 a xs ∧ ∀ p, H1 p = none → Q (.ref p) (upd H1 p (.lst xs.reverse))
section
variable {X : Cx}
theorem pe_listRev {e : Expr} {te : TE} {p p2 pos pos2 : Pos} (hc : X.calm = true) (hg : Gl X "list") (hm : X.mg "list" = none) (hg2 : Gl X "reversed") (hm2 : X.mg "reversed" = none) (he : PE X e te) (hs : starEach [e] X.env = (false, eval e X.env) :: starEach [] X.env) :
    PE X (.Call (.Name "list" p) [.Call (.Name "reversed" p2) [e] [] pos2] [] pos) (tListRev X.K te) := by
  refine ⟨fun pins s σ H Q I h => ?_⟩
  refine Call_ (ld_blt I hg hm PyProof.Rows.boot_list (PyProof.Rows.callWith_type1 (args_cons ?_ rfl) rfl rfl))
  refine Call_ (ld_blt I hg2 hm2 PyProof.Rows.boot_reversed (PyProof.Rows.callWith_type1 (args_cons (thn (he.run pins s σ H _ I h) fun u s1 ⟨v, H1, I1, r1, q1⟩ => args_nil ?_) hs) hs rfl))
  obtain ⟨a, xs, ev, hq, q⟩ := q1
  subst ev
  obtain rfl : u = Value.ref a := r1
  obtain ⟨its, rv, p', hz⟩ := I1.list hq
  have hl := p'.isList
  obtain ⟨ol, hol, _⟩ := id hl
  refine call_reversed_list hl (args_nil ?_)
  have hn : its.toArray.size ≤ sizeLine := by rw [List.size_toArray, ← rv.length]; exact hz
  have I2 : L2.Inv X pins σ H1 { s1 with heap := s1.heap.push (revObj a ((its.toArray.size : Int) - 1)) } := I1.kept (t' := s1.toks) fun b o e => Heap.get?_push_of_some _ e
  refine call_list_rev (s := { s1 with heap := s1.heap.push (revObj a ((its.toArray.size : Int) - 1)) }) (I1.ok.hd hc) ⟨_, Heap.get?_push_size _ rfl, rfl, rfl⟩ (hl.push _) (Nat.ne_of_lt (Heap.lt_size hol)) hn fun h' tk ac c' hk hS ha => ?_
  generalize hS0 : (s1.heap.push (revObj a ((its.toArray.size : Int) - 1))).objs.size = T at hS ⊢
  have hlt : s1.heap.objs.size < T := by rw [← hS0, Heap.size_push]; exact Nat.lt_succ_self _
  have hT : H1 T = none := I1.hok.fresh (Nat.le_of_lt hlt)
  -- the list as it will stand, laid; then the walk behind it
  have I3 : L2.Inv X pins σ (upd H1 T (.lst xs.reverse)) { s1 with heap := (s1.heap.push (revObj a ((its.toArray.size : Int) - 1))).push { cls := .type "list", dict := none, data := .seq ac c', slots := #[] } } :=
    I2.laid (a := T) (t' := s1.toks) (fun c o e => Heap.get?_push_of_some _ e) (Nat.le_of_eq hS0) ⟨by rw [List.length_reverse]; exact hz, ac.toList, c', RT.vals_rev rv ha, by rw [← hS0, Array.toArray_toList]; exact Heap.get?_push_size _ rfl⟩
  obtain ⟨f0, f1, f2, f3, f4, f5⟩ := I1.fpOk (H' := upd H1 T (.lst xs.reverse)) (b := s1.heap.objs.size) (Nat.le_refl _) (by rw [upd_ne (Nat.ne_of_lt hlt)]; exact I1.hok.fresh (Nat.le_refl _))
  have I4 : L2.Inv X pins σ (upd H1 T (.lst xs.reverse)) { s1 with heap := h', toks := tk } := I3.turned (t' := tk) (fun b o hb e => by
    rcases PySem.Heap.get?_push_cases e with ⟨eb, eo⟩ | e
    · rw [hS0] at eb
      rw [eb, eo]
      exact hS
    · exact hk b o hb e) f0 f1 f3 f4 f5
  exact ⟨.ref T, _, I4, rfl, q _ hT⟩
end
end Mz

set_option Elab.async false
set_option linter.all false
set_option maxRecDepth 100000
set_option maxHeartbeats 1000000
set_option autoImplicit false
/-! Mz18: minus, constants of the module, reversed lists, the sizes of sets and dicts of numbers, the bag. -/
namespace Mz
open PySem PySem.Spec L2
open PyProof.Rows hiding St

def negE (f : MU) : MU := fun z => (f z).bind fun p => (rd p.2 p.1).bind fun d => (intD d).bind fun i => some (.d (.int (-i)), p.2)
def listRevE (f : MU) : MU := fun z => (f z).bind fun p => (rd p.2 p.1).bind fun d => match d with
  | .list ds => some (.nw ds.reverse, p.2)
  | _ => none
/-- how many different numbers -/
def dst (ns : List Int) : Nat := (ns.foldl step_dedup []).length
def lenSetE (f : MU) : MU := fun z => (f z).bind fun p => (rd p.2 p.1).bind fun d => match d with
  | .list ds => (intsD ds).bind fun ns => ifc (decide (ns.length ≤ 4000)) (.d (.int (dst ns)), p.2)
  | _ => none
def keysI : List PyData → Option (List Int)
  | [] => some []
  | .tuple [.int k, _] :: r => (keysI r).map (k :: ·)
  | _ => none
def lenDictE (f : MU) : MU := fun z => (f z).bind fun p => (rd p.2 p.1).bind fun d => match d with
  | .list ds => (keysI ds).bind fun ns => some (.d (.int (dst ns)), p.2)
  | _ => none
theorem range_getD (ns : List Int) : ((List.range ns.length).map fun i => ns.getD i 0) = ns := by
  refine List.ext_getElem? fun i => ?_
  rw [List.getElem?_map]
  by_cases h : i < ns.length
  · rw [List.getElem?_range h, List.getElem?_eq_getElem h]
    simp [h]
  · rw [List.getElem?_eq_none (by simpa using h), List.getElem?_eq_none (by simpa using h)]
    rfl
theorem dst_eq (ns : List Int) : (firstMet (fun i => ns.getD i 0) ns.length).length = dst ns := by
  unfold firstMet dst
  rw [range_getD]
theorem dst_le (ns : List Int) : dst ns ≤ ns.length := by
  rw [← dst_eq]
  exact firstMet_length_le _ _
theorem putK_keys (kvs : List (Key × V)) (i : Int) (v : V) (ns : List Int) (h : kvs.map (·.1) = ns.map Sum.inl) : (putK kvs (Sum.inl i) v).map (·.1) = (step_dedup ns i).map Sum.inl := by
  have e : (kvs.any fun kv => decide (kv.1 = Sum.inl i)) = ns.any (· == i) := by
    have e1 : (kvs.any fun kv => decide (kv.1 = Sum.inl i)) = (kvs.map (·.1)).any fun k => decide (k = Sum.inl i) := by rw [List.any_map]; rfl
    rw [e1, h, List.any_map]
    congr 1
    funext a
    show decide ((Sum.inl a : Key) = Sum.inl i) = (a == i)
    by_cases q : a = i
    · subst q; simp
    · have : (Sum.inl a : Key) ≠ Sum.inl i := fun z => q (Sum.inl.inj z)
      rw [decide_eq_false this]
      exact (beq_eq_false_iff_ne.mpr q).symm
  unfold putK step_dedup
  rw [e]
  split
  · rw [List.map_map, ← h]
    refine List.map_congr_left fun p _ => ?_
    show (if p.1 = Sum.inl i then (p.1, v) else p).1 = p.1
    split <;> rfl
  · rw [List.map_append, List.map_append, h]
    rfl
theorem mergeK_keys : ∀ (more : List (Key × V)) (ms : List Int) (kvs : List (Key × V)) (ns : List Int), more.map (·.1) = ms.map Sum.inl → kvs.map (·.1) = ns.map Sum.inl → (mergeK kvs more).map (·.1) = (ms.foldl step_dedup ns).map Sum.inl
  | [], [], kvs, ns, _, h => h
  | p :: more, m :: ms, kvs, ns, hm, h => by
    obtain ⟨k, v⟩ := p
    simp only [List.map_cons, List.cons.injEq] at hm
    obtain ⟨hk, hm⟩ := hm
    subst hk
    exact mergeK_keys more ms _ _ hm (putK_keys kvs m v ns h)
  | [], _ :: _, _, _, hm, _ => by simp at hm
  | _ :: _, [], _, _, hm, _ => by simp at hm
theorem mergeK_len {more : List (Key × V)} {ms : List Int} (h : more.map (·.1) = ms.map Sum.inl) : (mergeK [] more).length = dst ms := by
  have := congrArg List.length (mergeK_keys more ms [] [] h rfl)
  simpa [dst] using this
/-- the pairs of a list of pairs -/
theorem pairs_of {K : PySem.W.Frag} {S : Av} {H : Hp} : ∀ {ds : List PyData} {vs : List V} {ns : List Int}, RpA K S H ds vs → keysI ds = some ns →
    ∃ (ps : List Addr) (kvs : List (Key × V)), vs = ps.map V.ref ∧ Paired (fun p kv => SqT K H p [kV kv.1, kv.2]) ps kvs ∧ kvs.map (·.1) = ns.map Sum.inl
  | [], vs, ns, h, e => by
    rw [RpA] at h
    cases e
    exact ⟨[], [], h, .nil, rfl⟩
  | d :: r, vs, ns, h, e => by
    rw [RpA] at h
    obtain ⟨x, ws, rfl, q1, q2⟩ := h
    unfold keysI at e
    split at e
    · rename_i h0
      cases h0
    · rename_i k y r' h0
      cases h0
      obtain ⟨ms, e1, rfl⟩ := Option.map_eq_some_iff.mp e
      obtain ⟨ps, kvs, k1, k2, k3⟩ := pairs_of q2 e1
      rw [Rp] at q1
      obtain ⟨a, us, rfl, s1, s2⟩ := q1
      rw [RpA] at s2
      obtain ⟨x1, u1, rfl, t1, s2⟩ := s2
      rw [RpA] at s2
      obtain ⟨x2, u2, rfl, t2, s2⟩ := s2
      rw [RpA] at s2
      subst s2
      rw [Rp] at t1
      subst t1
      exact ⟨a :: ps, (.inl k, x2) :: kvs, by rw [k1]; rfl, .cons s1 k2, by rw [List.map_cons, k3]; rfl⟩
    · cases e
section
variable {X : Cx} {g : Gb} {a b : Expr} {f : MU} {pos p p2 pos2 : Pos}
theorem de_neg (ha : PE X a (TEf X.K g f)) : PE X (.UnaryOp .USub a pos) (TEf X.K g (negE f)) := by
  refine peI (pe_un un_neg ha) fun σ H Q h => ?_
  obtain ⟨S, z, u, z', e, h, q⟩ := h
  obtain ⟨⟨u1, z1⟩, h1, h⟩ := bnd h
  obtain ⟨d, r1, h⟩ := bnd h
  obtain ⟨i, hi, h⟩ := bnd h
  cases h
  have hi := intD_eq hi
  dsimp only at hi r1
  subst hi
  refine seq1 e h1 fun v1 H1 p => ?_
  exact ⟨i, rdp_int (p.read1 r1), q _ _ (Post.fin (w := .d (.int (-i))) p Ext.refl (rw_int _))⟩
theorem de_glob {x : Str} {v : V} {u : Value} {d : PyData} (hg : Gl X x) (hm : X.mg x = some u) (r : RelV v u) (hd : (x == ("__debug__" : Str)) = false) (hr : ∀ S H, Rp X.K S H d v) : PE X (.Name x pos) (TEf X.K g (cE d)) := de_const (pe_glob hg hm r hd) hr
theorem de_listRev (hc : X.calm = true) (hg : Gl X "list") (hm : X.mg "list" = none) (hg2 : Gl X "reversed") (hm2 : X.mg "reversed" = none) (ha : PE X a (TEf X.K g f)) (hs : starEach [a] X.env = (false, eval a X.env) :: starEach [] X.env) :
    PE X (.Call (.Name "list" p) [.Call (.Name "reversed" p2) [a] [] pos2] [] pos) (TEf X.K g (listRevE f)) := by
  refine peI (pe_listRev hc hg hm hg2 hm2 ha hs) fun σ H Q h => ?_
  obtain ⟨S, z, u, z', e, h, q⟩ := h
  obtain ⟨⟨u1, z1⟩, h1, h⟩ := bnd h
  obtain ⟨d, r1, h⟩ := bnd h
  split at h
  · rename_i d0 ds
    cases h
    refine seq1 e h1 fun v1 H1 p => ?_
    obtain ⟨c, xs, rfl, k1, k2⟩ := rdp_lst (p.read1 r1)
    exact ⟨c, xs, rfl, SqL.of k1, fun q1 hq => q _ _ (Post.fin (w := .nw ds.reverse) p (Ext.upd hq) (rw_lst hq k2.reverse))⟩
  · cases h
def tLenSet (K : PySem.W.Frag) (ta : TE) : TE := fun σ H Q => ta σ H fun x H1 => ∃ (l : Addr) (ns : List Int), x = .ref l ∧ SqL K H1 l (ns.map V.int) ∧ ns.length ≤ 4000 ∧ Q (.int (dst ns : Nat)) H1
theorem pe_lenSet {ta : TE} (hg : Gl X "len") (hm : X.mg "len" = none) (hg2 : Gl X "set") (hm2 : X.mg "set" = none) (ha : PE X a ta) (hc : X.calm = true) (na : starEach [a] X.env = (false, eval a X.env) :: starEach [] X.env) :
    PE X (.Call (.Name "len" p) [.Call (.Name "set" p2) [a] [] pos2] [] pos) (tLenSet X.K ta) := by
  refine ⟨fun pins s σ H Q I h => Call_ (ld_blt I hg hm boot_len (PyProof.Rows.callWith_builtin1 (PyProof.Rows.args_cons (Call_ (ld_blt I hg2 hm2 boot_set (PyProof.Rows.callWith_type1 (PyProof.Rows.args_cons ?_ na) na rfl))) rfl) rfl rfl))⟩
  refine thn (ha.run pins s σ H _ I h) fun v s1 ⟨x, H1, I1, r1, q1⟩ => PyProof.Rows.args_nil ?_
  obtain ⟨l, ns, rfl, hq, hl, q1⟩ := q1
  cases r1
  obtain ⟨its, r, pl, hz⟩ := I1.list hq
  have hlen : its.toArray.size = ns.length := by rw [List.size_toArray, ← r.length, List.length_map]
  refine call_set_list (I1.ok.hd hc) pl.isList (by simpa using RZ.intsAre_vals r) (by rw [hlen]; unfold scanBound; omega) fun h' tk hS hk => PyProof.Rows.args_nil ?_
  rw [hlen] at hS
  obtain ⟨o, es, ep, t, ho, hex, hd, _, _, _, hf, hn⟩ := hS
  have I2 : L2.Inv X pins σ H1 { s1 with heap := h', toks := tk } := I1.kept fun b o e => hk b o (Heap.lt_size e) e
  rw [dst_eq] at hn
  have hle := dst_le ns
  exact call_len_set ho hex hd hf (by rw [hn]; omega) ⟨.int (dst ns : Nat), H1, I2.tok _, ⟨_, by rw [hn]⟩, q1⟩
theorem de_lenSet (hg : Gl X "len") (hm : X.mg "len" = none) (hg2 : Gl X "set") (hm2 : X.mg "set" = none) (ha : PE X a (TEf X.K g f)) (hc : X.calm = true) (na : starEach [a] X.env = (false, eval a X.env) :: starEach [] X.env) :
    PE X (.Call (.Name "len" p) [.Call (.Name "set" p2) [a] [] pos2] [] pos) (TEf X.K g (lenSetE f)) := by
  refine peI (pe_lenSet hg hm hg2 hm2 ha hc na) fun σ H Q h => ?_
  obtain ⟨S, z, u, z', e, h, q⟩ := h
  obtain ⟨⟨u1, z1⟩, h1, h⟩ := bnd h
  obtain ⟨d, r1, h⟩ := bnd h
  split at h
  · rename_i d0 ds
    obtain ⟨ns, hns, h⟩ := bnd h
    obtain ⟨hl, h⟩ := ifc_eq h
    cases h
    refine seq1 e h1 fun v1 H1 p => ?_
    obtain ⟨c, xs, rfl, k1, k2⟩ := rdp_lst (p.read1 r1)
    obtain ⟨k3, _⟩ := ints_v k2 hns
    subst k3
    exact ⟨c, ns, rfl, SqL.of k1, of_decide_eq_true hl, q _ _ (Post.fin (w := .d (.int (dst ns))) p Ext.refl (rw_int _))⟩
  · cases h
theorem call_lenK : CallR X (.builtin "len") (fun xs H Q => ∃ (l : Addr) (kvs : List (Key × V)), xs = [.ref l] ∧ H l = some (.dK kvs) ∧ Q (.int kvs.length) H) := by
  intro pins s σ H xs us Q I r h
  obtain ⟨l, kvs, rfl, hd, q⟩ := h
  obtain ⟨u, rfl, rx⟩ := vals1 r
  cases rx
  exact d_len I (.of hd) fun t s' I' => ⟨.int kvs.length, H, I', ⟨t, rfl⟩, q⟩
theorem de_lenDict (hg : Gl X "len") (hm : X.mg "len" = none) (hg2 : Gl X "dict") (hm2 : X.mg "dict" = none) (ha : PE X a (TEf X.K g f)) (hc : X.calm = true) (na : starEach [a] X.env = (false, eval a X.env) :: starEach [] X.env) :
    PE X (.Call (.Name "len" p) [.Call (.Name "dict" p2) [a] [] pos2] [] pos) (TEf X.K g (lenDictE f)) := by
  have h1 : PE X (.Call (.Name "dict" p2) [a] [] pos2) _ := pe_callTy (call_dictP hc) hg2 hm2 (by decide +kernel) (pa_cons ha pa_nil na) (by decide +kernel) (by decide +kernel) na rfl
  refine peI (pe_callB call_lenK hg hm boot_len (pa_cons h1 pa_nil rfl) (by decide +kernel) (by decide +kernel) rfl rfl) fun σ H Q h => ?_
  obtain ⟨S, z, u, z', e, h, q⟩ := h
  obtain ⟨⟨u1, z1⟩, h1, h⟩ := bnd h
  obtain ⟨d, r1, h⟩ := bnd h
  split at h
  · rename_i d0 ds
    obtain ⟨ns, hns, h⟩ := bnd h
    cases h
    refine seq1 e h1 fun v1 H1 p => ?_
    obtain ⟨c, xs, rfl, k1, k2⟩ := rdp_lst (p.read1 r1)
    obtain ⟨ps, kvs, rfl, k3, k4⟩ := pairs_of k2 hns
    refine ⟨c, ps, kvs, rfl, SqL.of k1, k3, fun t ht => ⟨t, mergeK [] kvs, rfl, upd_same, ?_⟩⟩
    rw [mergeK_len k4]
    exact q _ _ (Post.fin (w := .d (.int (dst ns))) p (Ext.upd ht) (show Rp X.K (fun a => S a ∨ Ow g σ z1.r a) (upd H1 t (.dK (mergeK [] kvs))) (.int (dst ns : Nat)) (.int (dst ns : Nat)) by rw [Rp]))
  · cases h
end
end Mz

set_option Elab.async false
set_option linter.all false
set_option maxRecDepth 100000
set_option maxHeartbeats 4000000
set_option autoImplicit false
/-! Mz19: tuple * int, any int. -/
namespace L2
open PySem PySem.Spec PyProof.Rows
theorem mulT_same (l : Addr) (items : Array Value) (n : Nat) (dd : Option Addr) (sl : Array (Option Value)) (x : Int) (u : Tok) (c0 : (decide (x < -(2 ^ 63)) || decide (x ≥ 2 ^ 63)) = false) (c1 : (items.isEmpty || x == 1) = true) :
    Meets (Builtin.«tuple.__mul__» ⟨[.ref l, .int x u], []⟩) (fun _ R s => s.heap.get? l = some { cls := .type "tuple", dict := dd, data := .seq items n, slots := sl } ∧ R (.ok (.ret (Value.ref l))) s) :=
  .of_wp fun prog w A R s h => by
    obtain ⟨hp, g, d, tk, os⟩ := s
    obtain ⟨hl, h⟩ := h
    have f1 := AutoSeq1.idx_int
    wp_walk using wpAny_loadPart' hl
    repeat (first
      | (refine wpAny_ite_false (decide_eq_false (by rw [c0]; exact Bool.false_ne_true)) ?_; wp_walk using wpAny_loadPart' hl)
      | (refine wpAny_ite_true (decide_eq_true c1) ?_; wp_walk using wpAny_loadPart' hl))
    exact ⟨_, rfl, h⟩
theorem mulT_none (l : Addr) (items : Array Value) (n : Nat) (dd : Option Addr) (sl : Array (Option Value)) (x : Int) (u : Tok) (c0 : (decide (x < -(2 ^ 63)) || decide (x ≥ 2 ^ 63)) = false) (c1 : (items.isEmpty || x == 1) = false) (c2 : (decide (x ≤ 0) || items.isEmpty) = true) :
    Meets (Builtin.«tuple.__mul__» ⟨[.ref l, .int x u], []⟩) (fun _ R s => s.heap.get? l = some { cls := .type "tuple", dict := dd, data := .seq items n, slots := sl } ∧
      R (.ok (.ret (Value.ref s.heap.objs.size))) { s with heap := s.heap.push { cls := Value.type "tuple", data := Data.seq #[] }, toks := s.toks }) :=
  .of_wp fun prog w A R s h => by
    obtain ⟨hp, g, d, tk, os⟩ := s
    obtain ⟨hl, h⟩ := h
    have f1 := AutoSeq1.idx_int
    wp_walk using wpAny_loadPart' hl
    repeat (first
      | (refine wpAny_ite_false (decide_eq_false (by rw [c0]; exact Bool.false_ne_true)) ?_; wp_walk using wpAny_loadPart' hl)
      | (refine wpAny_ite_false (decide_eq_false (by rw [c1]; exact Bool.false_ne_true)) ?_; wp_walk using wpAny_loadPart' hl)
      | (refine wpAny_ite_true (decide_eq_true c2) ?_; wp_walk using wpAny_loadPart' hl))
    exact ⟨_, rfl, h⟩
def rMulT (K : PySem.W.Frag) : R2 := fun x y H Q => ∃ l k xs, x = .ref l ∧ y = .int k ∧ SqT K H l xs ∧ -(2 ^ 63) ≤ k ∧ k ≤ 1000 ∧ xs.length ≤ 1000 ∧
  ((xs = [] ∨ k = 1) → Q (.ref l) H) ∧ (xs ≠ [] → k ≤ 0 → ∀ p, H p = none → Q (.ref p) (upd H p (.tup []))) ∧ (xs ≠ [] → 2 ≤ k → ∀ p, H p = none → Q (.ref p) (upd H p (.tup (List.replicate k.toNat xs).flatten)))
section
variable {X : Cx}
theorem op_mulT : OpR X (binaryOp .Mult) (rMulT X.K) := by
  intro pins s σ H x y v u Q I rx ry h
  obtain ⟨l, k, xs, rfl, rfl, hT, h0, h1, hz, q1, q2, q3⟩ := h
  by_cases hb : xs ≠ [] ∧ 2 ≤ k
  · exact op_repT pins s σ H _ _ v u Q I rx ry ⟨l, k, xs, rfl, rfl, hT, hb.1, hb.2, h1, hz, q3 hb.1 hb.2⟩
  cases rx
  obtain ⟨t, rfl⟩ := ry
  obtain ⟨its, r, ⟨⟨cls, dd, data, sl⟩, ho, hc, n, hd⟩, hs⟩ := I.tuple hT
  simp only at hc hd
  subst hc hd
  have hle : its.length = xs.length := r.length.symm
  have c0 : (decide (k < -(2 ^ 63)) || decide (k ≥ 2 ^ 63)) = false := by
    rw [decide_eq_false (by omega), decide_eq_false (by omega)] <;> rfl
  refine wpAny_binaryOp_repeat_ref (T := "tuple") (U := "int") (by decide) ⟨_, ho, rfl⟩ (fun s' => typeIs_int s' k t) noFill_tuple_mul F.fills_int_mul F.slot_int_rmul repeat_tuple F.slot_int_index.lookup
    (call_meets F.slot_int_rmul (typeIs_int s k t) F.entry_int_rmul (F.args_int_rmul_2 _ _) (int_rmul_tuple k t l its.toArray n dd sl) ⟨ho, rfl, ⟨_, ho, rfl⟩, ?_⟩)
  by_cases hn : xs = []
  · have e : its = [] := List.eq_nil_of_length_eq_zero (by rw [hle, hn]; rfl)
    subst e
    exact call_meets F.slot_tuple_mul ⟨_, ho, rfl⟩ F.entry_tuple_mul (F.args_tuple_mul_2 _ _) (mulT_same l _ n dd sl k t c0 (by rfl)) ⟨ho, ⟨.ref l, H, I, rfl, q1 (.inl hn)⟩⟩
  · have hne : its.toArray.isEmpty = false := by
      cases its with
      | nil => exact absurd (List.eq_nil_of_length_eq_zero hle.symm) hn
      | cons a b => rfl
    by_cases h1k : k = 1
    · exact call_meets F.slot_tuple_mul ⟨_, ho, rfl⟩ F.entry_tuple_mul (F.args_tuple_mul_2 _ _) (mulT_same l _ n dd sl k t c0 (by rw [h1k]; simp)) ⟨ho, ⟨.ref l, H, I, rfl, q1 (.inr h1k)⟩⟩
    · have hk0 : k ≤ 0 := by
        rcases Int.lt_or_le k 2 with k2 | k2
        · omega
        · exact absurd ⟨hn, k2⟩ hb
      refine call_meets F.slot_tuple_mul ⟨_, ho, rfl⟩ F.entry_tuple_mul (F.args_tuple_mul_2 _ _) (mulT_none l _ n dd sl k t c0 (by rw [hne, Bool.false_or]; exact beq_eq_false_iff_ne.mpr h1k) (by rw [decide_eq_true hk0]; rfl)) ⟨ho, ?_⟩
      refine ⟨.ref s.heap.objs.size, _, I.laid (t' := s.toks) (o := .tup []) (fun b ob q => Heap.get?_push_of_some _ q) (Nat.le_refl _) ?_, rfl, q2 hn hk0 _ (I.hok.fresh (Nat.le_refl _))⟩
      exact ⟨Nat.zero_le _, [], .nil, IsTup.new _ _⟩
end
end L2

namespace Mz
open PySem PySem.Spec L2
open PyProof.Rows hiding St
def tmulE (f g : MU) : MU := fun z => (f z).bind fun p => (g p.2).bind fun q => (rd q.2 p.1).bind fun d1 => (rd q.2 q.1).bind fun d2 => (intD d2).bind fun k => match d1 with
  | .tuple ds => ifc (decide (-(2 ^ 63) ≤ k) && (decide (k ≤ 1000) && decide (ds.length ≤ 1000))) (.d (.tuple (List.replicate k.toNat ds).flatten), q.2)
  | _ => none
section
variable {X : Cx} {g : Gb} {a b : Expr} {f f1 f2 : MU} {pos p p2 pos2 : Pos}
theorem de_tmul (ha : PE X a (TEf X.K g f1)) (hb : PE X b (TEf X.K g f2)) : PE X (.BinOp a .Mult b pos) (TEf X.K g (tmulE f1 f2)) := by
  refine peI (pe_op op_mulT ha hb) fun σ H Q h => ?_
  obtain ⟨S, z, u, z', e, h, q⟩ := h
  obtain ⟨⟨u1, z1⟩, h1, h⟩ := bnd h
  obtain ⟨⟨u2, z2⟩, h2, h⟩ := bnd h
  obtain ⟨d1, r1, h⟩ := bnd h
  obtain ⟨d2, r2, h⟩ := bnd h
  obtain ⟨k, hk, h⟩ := bnd h
  have hk := intD_eq hk
  dsimp only at hk r1 r2
  subst hk
  cases d1 with
  | tuple ds =>
    obtain ⟨c, h⟩ := ifc_eq (show ifc _ _ = some (u, z') from h)
    cases h
    simp only [Bool.and_eq_true, decide_eq_true_eq] at c
    refine seq2 e h1 h2 fun v1 v2 H2 p => ?_
    obtain ⟨q1, q2⟩ := p.read2 r1 r2
    rw [rdp_int q2]
    obtain ⟨l, xs, rfl, k1, k2⟩ := rdp_tup q1
    have hl := k2.length
    have rep := RpA.rep k2 k.toNat
    refine ⟨l, k, xs, rfl, rfl, k1, c.1, c.2.1, by rw [hl]; exact c.2.2, fun hh => q _ _ (Post.fin (w := .d (.tuple _)) p Ext.refl ?_), fun hn h0 t ht => q _ _ (Post.fin (w := .d (.tuple _)) p (Ext.upd ht) ?_), fun hn h2 t ht => q _ _ (Post.fin (w := .d (.tuple _)) p (Ext.upd ht) (rw_tup ht rep))⟩
    · show Rp X.K _ H2 (.tuple _) _
      rw [Rp]
      refine ⟨l, xs, rfl, k1, ?_⟩
      rcases hh with hh | hh
      · have e0 : ds = [] := List.eq_nil_of_length_eq_zero (by rw [← hl, hh]; rfl)
        rw [e0, hh]
        have : (List.replicate k.toNat ([] : List PyData)).flatten = [] := by simp
        rw [this]
        exact .nil
      · subst hh
        simpa using k2
    · have e0 : k.toNat = 0 := by omega
      rw [e0]
      exact rw_tup ht .nil
  | _ => cases h

/-! ### the bag -/
def isBag (z : Z) (i : Nat) : Bool := match z.r[i]? with
  | some .bag => true
  | _ => false
theorem isBag_eq {z : Z} {i : Nat} (h : isBag z i = true) : z.r[i]? = some .bag := by
  unfold isBag at h
  split at h
  · assumption
  · cases h
theorem vE_bag {z : Z} {i : Nat} (h : isBag z i = true) : vE i z = some (.bag, z) := by
  unfold vE
  rw [isBag_eq h]
def Bg.fld (β : Bg) (m : Bool) : Int := if m then β.mix else β.cur
def Bg.put (β : Bg) (m : Bool) (k : Int) : Bg := if m then ⟨β.cells, β.cur, k⟩ else ⟨β.cells, k, β.mix⟩
def bagJ (m : Bool) : Int := if m then 2 else 1
def bagIxE (i : Nat) (m : Bool) : MU := fun z => ifc (isBag z i) (.d (.int (z.b.fld m)), z)
theorem bag_ru {K : PySem.W.Frag} {S : Av} {σ : St} {H : Hp} {z : Z} {v : V} (e : ER K g S σ H z) (r : RU K g S σ H z .bag v) : ∃ b c, g = some (b, c) ∧ v = .ref b ∧ b ≠ c ∧ H b = some (.lst [.ref c, .int z.b.cur, .int z.b.mix]) ∧ H c = some (.lst (z.b.cells.map V.int)) := by
  obtain ⟨b, c, h1, h2⟩ := r
  obtain ⟨h3, h4, h5⟩ := e.bag b c h1
  exact ⟨b, c, h1, h2, h3, h4, h5⟩
theorem de_bagIx {i : Nat} {m : Bool} (ha : PE X a (TEf X.K g (vE i))) (hb : PE X b (TEf X.K g (cE (.int (bagJ m))))) (hs : PlainIx b) : PE X (.Subscript a b pos) (TEf X.K g (bagIxE i m)) := by
  refine peI (pe_ix ix_seq ha hb hs) fun σ H Q h => ?_
  obtain ⟨S, z, u, z', e, h, q⟩ := h
  obtain ⟨hb', h⟩ := ifc_eq h
  cases h
  refine ⟨S, z, .bag, z, e, vE_bag hb', fun v H1 p => ⟨_, z, _, z, p.er, rfl, fun y H2 p2 => ?_⟩⟩
  have pl : PostL X.K g S σ H z [.bag, .d (.int (bagJ m))] z [v, y] H2 := .cons p (.cons p2 (.nil p2.er))
  have hy : y = .int (bagJ m) := rdp_int (p2.ru.read p2.er rfl)
  obtain ⟨_, _, e0, ru, _⟩ := pl.ru
  cases e0
  obtain ⟨b', c, h1, rfl, h3, h4, h5⟩ := bag_ru pl.er ru
  refine .inl ⟨b', _, bagJ m, .int (z.b.fld m), rfl, hy, SqL.of h4, ?_, q _ _ (Post.fin (w := .d (.int _)) pl Ext.refl (rw_int _))⟩
  cases m <;> rfl
/-- bag[0] -/
def TB0 (K : PySem.W.Frag) (g : Gb) (i : Nat) : TE := fun σ H Q => ∃ S z, ER K g S σ H z ∧ isBag z i = true ∧ ∀ b c H', g = some (b, c) → PostL K g S σ H z [] z [] H' → b ≠ c → H' b = some (.lst [.ref c, .int z.b.cur, .int z.b.mix]) → H' c = some (.lst (z.b.cells.map V.int)) → Q (.ref c) H'
theorem PostL.drop0 {K : PySem.W.Frag} {S : Av} {σ : St} {H H' : Hp} {z z' : Z} {us : List U} {vs : List V} (p : PostL K g S σ H z us z' vs H') : PostL K g S σ H z [] z' [] H' :=
  ⟨p.kp, p.ow, p.er.sub fun a h => h.elim .inl fun t => t.elim, rfl, fun a t => t.elim, p.lk⟩
theorem de_bag0 {i : Nat} (ha : PE X a (TEf X.K g (vE i))) (hb : PE X b (TEf X.K g (cE (.int 0)))) (hs : PlainIx b) : PE X (.Subscript a b pos) (TB0 X.K g i) := by
  refine peI (pe_ix ix_seq ha hb hs) fun σ H Q h => ?_
  obtain ⟨S, z, e, hb', q⟩ := h
  refine ⟨S, z, .bag, z, e, vE_bag hb', fun v H1 p => ⟨_, z, _, z, p.er, rfl, fun y H2 p2 => ?_⟩⟩
  have pl : PostL X.K g S σ H z [.bag, .d (.int 0)] z [v, y] H2 := .cons p (.cons p2 (.nil p2.er))
  have hy : y = .int 0 := rdp_int (p2.ru.read p2.er rfl)
  obtain ⟨_, _, e0, ru, _⟩ := id pl.ru
  cases e0
  obtain ⟨b', c, h1, rfl, h3, h4, h5⟩ := bag_ru pl.er ru
  exact .inl ⟨b', _, 0, .ref c, rfl, hy, SqL.of h4, rfl, q _ _ _ h1 pl.drop0 h3 h4 h5⟩
/-- bag[0] == [] -/
def bagNilE (i : Nat) : MU := fun z => (ifc (isBag z i) ()).bind fun _ => (cmpS .Eq (.list (z.b.cells.map PyData.int)) (.list [])).bind fun t => some (.d (.bool t), z)
theorem rpa_cells {K : PySem.W.Frag} {T : Av} {H : Hp} : ∀ l : List Int, RpA K T H (l.map PyData.int) (l.map V.int)
  | [] => .nil
  | a :: r => .cons (by rw [Rp]) (rpa_cells r)
theorem de_bagNil {i : Nat} {pos3 : Pos} (hu : X.A.units + 65 < cLine) (ha : PE X a (TB0 X.K g i)) (hm : behindInMarks .Eq (.List [] pos3) = false) : PE X (.Compare a [.Eq] [.List [] pos3] pos) (TEf X.K g (bagNilE i)) := by
  obtain ⟨r, ho, hr⟩ := cmp_any (X := X) (op := .Eq) hu
  refine peI (pe_cmpR ho ha (de_lst (g := g) da_nil) hm) fun σ H Q h => ?_
  obtain ⟨S, z, u, z', e, h, q⟩ := h
  obtain ⟨_, hb', h⟩ := bnd h
  obtain ⟨hb', _⟩ := ifc_eq hb'
  obtain ⟨t, ht, h⟩ := bnd h
  cases h
  refine ⟨S, z, e, hb', fun b c H1 h1 p h3 h4 h5 => ?_⟩
  refine ⟨_, z, .nw [], z, p.er, rfl, fun y H2 p2 => ?_⟩
  have h6 : H2 c = some (.lst (z.b.cells.map V.int)) := (p2.er0.bag b c h1).2.2
  have q2 := p2.ru.read p2.er (d := .list []) rfl
  have pl := p.append (.cons p2 (.nil p2.er))
  exact hr _ _ _ _ _ _ _ _ (show RdP X.K _ H2 (.list (z.b.cells.map PyData.int)) (.ref c) from ⟨c, _, rfl, h6, rpa_cells _⟩) q2 ht (q _ _ (Post.fin (w := .d (.bool t)) pl Ext.refl (rw_bl _)))
theorem dt_bagNil {i : Nat} {pos3 : Pos} (hu : X.A.units + 65 < cLine) (ha : PE X a (TB0 X.K g i)) (hm : behindInMarks .Eq (.List [] pos3) = false) : PT X (.Compare a [.Eq] [.List [] pos3] pos) (TTf X.K g (bagNilE i)) := by
  obtain ⟨r, ho, hr⟩ := cmp_any (X := X) (op := .Eq) hu
  refine ptI (pt_cmpR ho ha (de_lst (g := g) da_nil) hm) fun σ H Q h => ?_
  obtain ⟨S, z, t, z', e, h, q⟩ := h
  obtain ⟨_, hb', h⟩ := bnd h
  obtain ⟨hb', _⟩ := ifc_eq hb'
  obtain ⟨t', ht, h⟩ := bnd h
  cases h
  refine ⟨S, z, e, hb', fun b c H1 h1 p h3 h4 h5 => ?_⟩
  refine ⟨_, z, .nw [], z, p.er, rfl, fun y H2 p2 => ?_⟩
  have h6 : H2 c = some (.lst (z.b.cells.map V.int)) := (p2.er0.bag b c h1).2.2
  have q2 := p2.ru.read p2.er (d := .list []) rfl
  have pl := p.append (.cons p2 (.nil p2.er))
  exact hr _ _ _ _ _ _ _ _ (show RdP X.K _ H2 (.list (z.b.cells.map PyData.int)) (.ref c) from ⟨c, _, rfl, h6, rpa_cells _⟩) q2 ht ⟨t, rfl, q _ (Post.fin (w := .d (.bool t)) pl Ext.refl (rw_bl _))⟩
/-- bag[0].pop() -/
def bagPopE (i : Nat) : MU := fun z => (ifc (isBag z i) ()).bind fun _ => (z.b.cells[z.b.cells.length - 1]?).bind fun k => some (.d (.int k), ⟨z.r, ⟨z.b.cells.dropLast, z.b.cur, z.b.mix⟩⟩)
theorem gbA_ow {K : PySem.W.Frag} {S : Av} {σ : St} {H : Hp} {z : Z} {b c : Addr} (h1 : g = some (b, c)) : Ow g σ z.r b ∧ Ow g σ z.r c := ⟨.inl ⟨b, c, h1, .inl rfl⟩, .inl ⟨b, c, h1, .inr rfl⟩⟩
theorem de_bagPop {i : Nat} {apos cpos : Pos} (ho : PE X b (TB0 X.K g i)) (hbase : attributeBase b "pop" X.env (eval b X.env) = eval b X.env) (hline : (apos.endLine == cpos.line) = true) : PE X (.Call (.Attribute b "pop" apos) [] [] cpos) (TEf X.K g (bagPopE i)) := by
  refine peI (pe_bm0 PySem.F.plainAttrs_list PySem.F.slot_list_pop PySem.F.type_list_pop mt_pop ho hbase hline) fun σ H Q h => ?_
  obtain ⟨S, z, u, z', e, h, q⟩ := h
  obtain ⟨_, hb', h⟩ := bnd h
  obtain ⟨hb', _⟩ := ifc_eq hb'
  obtain ⟨k, hk, h⟩ := bnd h
  cases h
  refine ⟨S, z, e, hb', fun b c H1 h1 p h3 h4 h5 => ?_⟩
  have e1 : ER X.K g S σ H1 z := p.er.sub fun a h => .inl h
  have kg : Kp (GbA g) H1 (upd H1 c (.lst (z.b.cells.map V.int).dropLast)) := kp_at ⟨b, c, h1, .inr rfl⟩ h5
  have bo : BagOk g (upd H1 c (.lst (z.b.cells.map V.int).dropLast)) ⟨z.b.cells.dropLast, z.b.cur, z.b.mix⟩ := fun b' c' hg => by
    rw [h1] at hg
    cases hg
    exact ⟨h3, by rw [upd_ne h3]; exact h4, by rw [upd_same]; simp [List.map_dropLast]⟩
  have e2 := e1.call kg bo (fun a s => kg.tr a (e1.trk a s)) fun a s => .inl s
  refine ⟨tyv_list h5, c, z.b.cells.map V.int, .int k, rfl, rfl, h5, by rw [List.length_map, List.getElem?_map, hk]; rfl, q _ _ ?_⟩
  refine ⟨p.kp.trans (kg.mono fun a h => .inl h) p.ow, fun a h => p.ow a h, e2.sub fun a h => h.elim id fun t => t.elim, ?_, fun a t => t.elim, p.lk⟩
  show Rp X.K (fun a => (S a ∨ tmp (.d (.int k)) (.int k) a) ∨ Ow g σ z.r a) (upd H1 c (.lst (z.b.cells.map V.int).dropLast)) (.int k) (.int k)
  rw [Rp]
/-- bag[1] = e, bag[2] = e -/
def bagSetS (i : Nat) (m : Bool) (f : MU) : MS := fun z => (f z).bind fun p => (rd p.2 p.1).bind fun d => (intD d).bind fun k => ifc (isBag p.2 i) (.nx ⟨p.2.r, p.2.b.put m k⟩)
theorem ts_bagSet {i : Nat} {m : Bool} {K : PySem.W.Frag} {D : Ends} {σ : St} {H : Hp} (h : TSf K g (bagSetS i m f) D σ H) : tAsg (TEf K g f) (gSub (TEf K g (vE i)) (TEf K g (cE (.int (bagJ m)))) rSetL) D σ H := by
  obtain ⟨S, z, f', e, h, q⟩ := h
  obtain ⟨⟨u1, z1⟩, h1, h⟩ := bnd h
  obtain ⟨d, r1, h⟩ := bnd h
  obtain ⟨k, hk, h⟩ := bnd h
  obtain ⟨hb', h⟩ := ifc_eq h
  subst h
  have hk := intD_eq hk
  dsimp only at hk r1 hb'
  subst hk
  refine ⟨S, z, u1, z1, e, h1, fun v H1 p => ?_⟩
  refine ⟨_, z1, .bag, z1, p.er, vE_bag hb', fun o H2 p2 => ?_⟩
  refine ⟨_, z1, _, z1, p2.er, rfl, fun y H3 p3 => ?_⟩
  have pl : PostL K g S σ H z [u1, .bag, .d (.int (bagJ m))] z1 [v, o, y] H3 := .cons p (.cons p2 (.cons p3 (.nil p3.er)))
  have hy : y = .int (bagJ m) := rdp_int (p3.ru.read p3.er rfl)
  obtain ⟨_, _, e0, ru1, ⟨_, _, e0', ru2, _⟩, _⟩ := id pl.ru
  cases e0; cases e0'
  have hv : v = .int k := rdp_int (ru1.read pl.er r1)
  obtain ⟨b', c, hg, rfl, h3, h4, h5⟩ := bag_ru pl.er ru2
  have e1 : ER K g S σ H3 z1 := pl.er.sub fun a h => .inl h
  have bs : ∀ ws, ws = ([V.ref c, .int (z1.b.put m k).cur, .int (z1.b.put m k).mix] : List V) → D.nx σ (upd H3 b' (.lst ws)) := fun ws ew => by
    have kg : Kp (GbA g) H3 (upd H3 b' (.lst ws)) := kp_at ⟨b', c, hg, .inl rfl⟩ h4
    have bo : BagOk g (upd H3 b' (.lst ws)) (z1.b.put m k) := fun b2 c2 hg2 => by
      rw [hg] at hg2
      cases hg2
      refine ⟨h3, by rw [upd_same, ew], ?_⟩
      rw [upd_ne (Ne.symm h3), h5]
      cases m <;> rfl
    have e2 := e1.call kg bo (fun a s => kg.tr a (e1.trk a s)) fun a s => .inl s
    exact q _ _ ⟨pl.kp.trans (kg.mono fun a h => .inl h) pl.ow, fun a h => .inl (pl.ow a h), e2, pl.lk.s⟩
  subst hv
  cases m with
  | true => exact ⟨b', _, 2, 2, rfl, hy, h4, rfl, bs _ rfl⟩
  | false => exact ⟨b', _, 1, 1, rfl, hy, h4, rfl, bs _ rfl⟩
end
end Mz

set_option Elab.async false
set_option linter.all false
set_option maxRecDepth 100000
set_option autoImplicit false
/-! Mz20: terms for expressions, what they mean, and when they tell a written expression. -/
namespace Mz
open PySem PySem.Spec L2
open PyProof.Rows hiding St

def dict0E : MU := fun z => some (.d (.dict []), z)
def dict1E (k : Str) (i : Int) : MU := fun z => some (.d (.dict [(.str k, .list [.int i])]), z)
mutual
inductive Ex where
  | var (i : Nat) | glob (x : Str) (k : Int) | cst (d : PyData)
  | tup (es : Exs) | lst (es : Exs)
  | bin (op : Operator) (a b : Ex) | tmul (a b : Ex)
  | cmp (op : CmpOp) (a b : Ex) | chain (op op' : CmpOp) (a b c : Ex) | isc (neg : Bool) (k : Cst) (a : Ex)
  | not (a : Ex) | neg (a : Ex) | and (es : Exs) | or (es : Exs) | ite (c a b : Ex)
  | idx (a b : Ex) | slc0 (a : Ex) | slcL (a l : Ex) | slcH (a h : Ex) | slcLH (a l h : Ex)
  | bi (b : Bi) (es : Exs) | isi (t : Ty) (a : Ex)
  | lrg1 (a : Ex) | lrev (a : Ex) | lset (a : Ex) | ldict (a : Ex)
  | app (i : Nat) (a : Ex) | ext (i : Nat) (a : Ex) | pop (i : Nat) | popAt (i : Nat) (a : Ex) | cnt (a b : Ex)
  | comp (it : Itr) (t : Tg) (c e : Ex) (own : List (Str × Nat))
  | call (x : Str) (es ks : Exs)
  | bix (i : Nat) (m : Bool) | bnil (i : Nat) | bpop (i : Nat) | dict0 | dict1 (k : Str) (i : Int)
inductive Exs where
  | nil | cons (a : Ex) (r : Exs)
inductive Itr where
  | val (a : Ex) | rg1 (a : Ex) | rg2 (a b : Ex) | enum (a : Ex) | zip (a b : Ex) | rev (a : Ex)
end
def Exs.len : Exs → Nat
  | .nil => 0
  | .cons _ r => r.len + 1
mutual
def evE (cl : Cl) : Ex → MU
  | .var i => vE i
  | .glob _ k => cE (.int k)
  | .cst d => cE d
  | .tup es => tupE (evL cl es)
  | .lst es => lstE (evL cl es)
  | .bin op a b => binE op (evE cl a) (evE cl b)
  | .tmul a b => tmulE (evE cl a) (evE cl b)
  | .cmp op a b => cmpE op (evE cl a) (evE cl b)
  | .chain op op' a b c => chainE op op' (evE cl a) (evE cl b) (evE cl c)
  | .isc n k a => isE n k (evE cl a)
  | .not a => notE (evE cl a)
  | .neg a => negE (evE cl a)
  | .and es => evAnd cl es
  | .or es => evOr cl es
  | .ite c a b => iteE (evE cl c) (evE cl a) (evE cl b)
  | .idx a b => idxE (evE cl a) (evE cl b)
  | .slc0 a => slc0E (evE cl a)
  | .slcL a l => slcLE (evE cl a) (evE cl l)
  | .slcH a h => slcHE (evE cl a) (evE cl h)
  | .slcLH a l h => slcLHE (evE cl a) (evE cl l) (evE cl h)
  | .bi b es => biE b (evL cl es)
  | .isi t a => isiE t (evE cl a)
  | .lrg1 a => rg1E R.nw (evE cl a)
  | .lrev a => listRevE (evE cl a)
  | .lset a => lenSetE (evE cl a)
  | .ldict a => lenDictE (evE cl a)
  | .app i a => appE i (evE cl a)
  | .ext i a => extE i (evE cl a)
  | .pop i => popE i
  | .popAt i a => popAtE i (evE cl a)
  | .cnt a b => cntE (evE cl a) (evE cl b)
  | .comp it t c e own => compE (evI cl it) t (evE cl c) (evE cl e) (own.map (·.2))
  | .call x es ks => callE (cl x) (evL cl es) (evL cl ks)
  | .bix i m => bagIxE i m
  | .bnil i => bagNilE i
  | .bpop i => bagPopE i
  | .dict0 => dict0E
  | .dict1 k i => dict1E k i
def evL (cl : Cl) : Exs → ML
  | .nil => nilE
  | .cons a r => consE (evE cl a) (evL cl r)
def evAnd (cl : Cl) : Exs → MU
  | .nil => fun _ => none
  | .cons a .nil => evE cl a
  | .cons a (.cons b r) => andE (evE cl a) (evAnd cl (.cons b r))
def evOr (cl : Cl) : Exs → MU
  | .nil => fun _ => none
  | .cons a .nil => evE cl a
  | .cons a (.cons b r) => orE (evE cl a) (evOr cl (.cons b r))
def evI (cl : Cl) : Itr → MI
  | .val a => itVal (evE cl a)
  | .rg1 a => itRg1 (evE cl a)
  | .rg2 a b => itRg2 (evE cl a) (evE cl b)
  | .enum a => itEnum (evE cl a)
  | .zip a b => itZip (evE cl a) (evE cl b)
  | .rev a => itRev (evE cl a)
end

/-! ### the check -/
structure Tb where
  defs : List (Str × List Str × List Nat)
  cons : List (Str × Int)
def okH : Expr → Bool
  | .Starred .. => false
  | .Set .. => false
  | .Slice .. => false
  | _ => true
def notIte : Expr → Bool
  | .IfExp .. => false
  | _ => true
def glB (sc : Scope) (x : Str) : Bool := decide (sc.names.lookup x = some .globalImplicit)
def visB (N : List Str) (sc : Scope) (i : Nat) (x : Str) : Bool := decide (N[i]? = some x) && (decide (sc.names.lookup x = some .local) || decide (sc.names.lookup x = some .cell) || decide (sc.names.lookup x = some .free)) &&
  (decide ((x == ("__debug__" : Str)) = false) && decide ((x == ("__classdict__" : Str)) = false))
def locB (N : List Str) (ws : Scope) (i : Nat) (x : Str) : Bool := decide (N[i]? = some x) && (decide (ws.names.lookup x = some .local) || decide (ws.names.lookup x = some .cell))
def cstB : PyData → Const → Bool
  | .int i, .int j => decide (i = j)
  | .bool i, .bool j => decide (i = j)
  | .str i, .str j => decide (i = j)
  | .none, .none => true
  | _, _ => false
def cstK : Cst → Expr → Bool
  | .non, .Constant .none _ _ => true
  | .bl b, .Constant (.bool c) _ _ => decide (b = c)
  | _, _ => false
mutual
def chkTg (N : List Str) (ws : Scope) : Tg → Expr → Bool
  | .nm i, .Name x _ => locB N ws i x
  | .tup ts, .Tuple es _ _ => chkTgs N ws ts es
  | _, _ => false
def chkTgs (N : List Str) (ws : Scope) : Tgs → List Expr → Bool
  | .nil, [] => true
  | .cons t ts, e :: es => okH e && chkTg N ws t e && chkTgs N ws ts es
  | _, _ => false
end
def isTrueC : Ex → Bool
  | .cst (.bool true) => true
  | _ => false
def kwsOk (kws : List Keyword) (ks : List Str) : Bool := decide (kws.map (·.arg) = ks.map some)
section
variable (tb : Tb) (N : List Str)
def chkL1 (f : Ex → Expr → Bool) : Exs → List Expr → Bool
  | .nil, [] => true
  | .cons a r, e :: es => f a e && chkL1 f r es
  | _, _ => false
def chkE : Nat → Scope → Scope → Ex → Expr → Bool
  | 0, _, _, _, _ => false
  | n + 1, sc, ws, a, e => okH e && match a with
    | .var i => (match e with | .Name x _ => visB N sc i x | _ => false)
    | .glob x k => (match e with | .Name y _ => decide (y = x) && glB sc y && decide ((y == ("__debug__" : Str)) = false) && decide ((x, k) ∈ tb.cons) | _ => false)
    | .cst d => (match e with | .Constant c _ _ => cstB d c | _ => false)
    | .tup es => (match e with | .Tuple xs _ _ => chkL1 (chkE n sc ws) es xs | _ => false)
    | .lst es => (match e with | .List xs _ => chkL1 (chkE n sc ws) es xs | _ => false)
    | .bin op a b => (match e with | .BinOp x o y _ => decide (o = op) && chkE n sc ws a x && chkE n sc ws b y | _ => false)
    | .tmul a b => (match e with | .BinOp x o y _ => decide (o = .Mult) && chkE n sc ws a x && chkE n sc ws b y | _ => false)
    | .cmp op a b => (match e with | .Compare x [o] [y] _ => decide (o = op) && chkE n sc ws a x && chkE n sc ws b y | _ => false)
    | .chain op op' a b c => (match e with | .Compare x [o, o'] [y, z] _ => decide (o = op) && decide (o' = op') && chkE n sc ws a x && chkE n sc ws b y && chkE n sc ws c z | _ => false)
    | .isc g k a => (match e with | .Compare x [o] [y] _ => decide (o = if g then .IsNot else .Is) && cstK k y && chkE n sc ws a x | _ => false)
    | .not a => (match e with | .UnaryOp .Not x _ => notIte x && chkE n sc ws a x | _ => false)
    | .neg a => (match e with | .UnaryOp .USub x _ => chkE n sc ws a x | _ => false)
    | .and es => (match e with | .BoolOp .And xs _ => decide (xs ≠ []) && chkL1 (fun a x => notIte x && chkE n sc ws a x) es xs | _ => false)
    | .or es => (match e with | .BoolOp .Or xs _ => decide (xs ≠ []) && chkL1 (fun a x => notIte x && chkE n sc ws a x) es xs | _ => false)
    | .ite c a b => (match e with | .IfExp x y z _ => notIte x && chkE n sc ws c x && chkE n sc ws a y && chkE n sc ws b z | _ => false)
    | .idx a b => (match e with | .Subscript x y _ => chkE n sc ws a x && chkE n sc ws b y | _ => false)
    | .slc0 a => (match e with | .Subscript x (.Slice none none none _) _ => chkE n sc ws a x | _ => false)
    | .slcL a l => (match e with | .Subscript x (.Slice (some y) none none _) _ => chkE n sc ws a x && chkE n sc ws l y | _ => false)
    | .slcH a h => (match e with | .Subscript x (.Slice none (some y) none _) _ => chkE n sc ws a x && chkE n sc ws h y | _ => false)
    | .slcLH a l h => (match e with | .Subscript x (.Slice (some y) (some z) none _) _ => chkE n sc ws a x && chkE n sc ws l y && chkE n sc ws h z | _ => false)
    | .bi b es => (match e with | .Call (.Name x _) xs [] _ => decide (x = b.name) && glB sc x && decide (xs ≠ []) && chkL1 (chkE n sc ws) es xs | _ => false)
    | .isi t a => (match e with | .Call (.Name x _) [y, .Name z _] [] _ => decide (x = "isinstance") && decide (z = Str.ofString t.s) && glB sc x && glB sc z && chkE n sc ws a y | _ => false)
    | .lrg1 a => (match e with | .Call (.Name x _) [.Call (.Name y _) [z] [] _] [] _ => decide (x = "list") && decide (y = "range") && glB sc x && glB sc y && chkE n sc ws a z | _ => false)
    | .lrev a => (match e with | .Call (.Name x _) [.Call (.Name y _) [z] [] _] [] _ => decide (x = "list") && decide (y = "reversed") && glB sc x && glB sc y && chkE n sc ws a z | _ => false)
    | .lset a => (match e with | .Call (.Name x _) [.Call (.Name y _) [z] [] _] [] _ => decide (x = "len") && decide (y = "set") && glB sc x && glB sc y && chkE n sc ws a z | _ => false)
    | .ldict a => (match e with | .Call (.Name x _) [.Call (.Name y _) [z] [] _] [] _ => decide (x = "len") && decide (y = "dict") && glB sc x && glB sc y && chkE n sc ws a z | _ => false)
    | .app i a => (match e with | .Call (.Attribute (.Name x _) m ap) [y] [] cp => decide (m = "append") && (ap.endLine == cp.line) && visB N sc i x && chkE n sc ws a y | _ => false)
    | .ext i a => (match e with | .Call (.Attribute (.Name x _) m ap) [y] [] cp => decide (m = "extend") && (ap.endLine == cp.line) && visB N sc i x && chkE n sc ws a y | _ => false)
    | .pop i => (match e with | .Call (.Attribute (.Name x _) m ap) [] [] cp => decide (m = "pop") && (ap.endLine == cp.line) && visB N sc i x | _ => false)
    | .popAt i a => (match e with | .Call (.Attribute (.Name x _) m ap) [y] [] cp => decide (m = "pop") && (ap.endLine == cp.line) && visB N sc i x && chkE n sc ws a y | _ => false)
    | .cnt a b => (match e with | .Call (.Attribute (.Name x p) m ap) [y] [] cp => decide (m = "count") && (ap.endLine == cp.line) && chkE n sc ws a (.Name x p) && chkE n sc ws b y | _ => false)
    | .comp it t c el own => (match e with
      | .ListComp x [⟨tg, iter, ifs, 0⟩] scope _ => blkC N sc scope own && chkI it (fun a e => chkE n sc ws a e) sc tg iter && chkTg N scope t tg && (match ifs with
          | [] => isTrueC c
          | [y] => notIte y && chkE n (relS scope sc) scope c y
          | _ => false) && chkE n (relS scope sc) scope el x && t.slots.all fun j => decide (j ∈ own.map (·.2))
      | _ => false)
    | .call x es ks => (match e with
      | .Call (.Name y _) xs kws _ => decide (y = x) && glB sc y && decide ((y == ("__debug__" : Str)) = false) && (match tb.defs.lookup x with
          | some (ps, kb) => decide (es.len + ks.len = ps.length) && decide (es.len ∈ kb) && kwsOk kws (ps.drop es.len)
          | none => false) && chkL1 (chkE n sc ws) es xs && chkL1 (chkE n sc ws) ks (kws.map (·.value))
      | _ => false)
    | .bix i m => (match e with | .Subscript (.Name x _) (.Constant (.int j) _ _) _ => visB N sc i x && decide (j = bagJ m) | _ => false)
    | .bnil i => (match e with | .Compare (.Subscript (.Name x _) (.Constant (.int j) _ _) _) [o] [.List [] _] _ => decide (o = .Eq) && visB N sc i x && decide (j = 0) | _ => false)
    | .bpop i => (match e with | .Call (.Attribute (.Subscript (.Name x _) (.Constant (.int j) _ _) _) m ap) [] [] cp => decide (m = "pop") && (ap.endLine == cp.line) && visB N sc i x && decide (j = 0) | _ => false)
    | .dict0 => (match e with | .Dict [] [] _ => true | _ => false)
    | .dict1 k i => (match e with | .Dict [some (.Constant (.str k') _ _)] [.List [.Constant (.int i') _ _] _] _ => decide (k' = k) && decide (i' = i) | _ => false)
where
  chkI (it : Itr) (f : Ex → Expr → Bool) (sc : Scope) (tg e : Expr) : Bool := okH e && match it with
    | .val a => f a e
    | .rg1 a => (match e with | .Call (.Name x _) [y] [] _ => decide (x = "range") && glB sc x && f a y | _ => false)
    | .rg2 a b => (match e with | .Call (.Name x _) [y, z] [] _ => decide (x = "range") && glB sc x && f a y && f b z | _ => false)
    | .enum a => (match tg, e with | .Tuple .., .Call (.Name x _) [y] [] _ => decide (x = "enumerate") && glB sc x && f a y | _, _ => false)
    | .zip a b => (match tg, e with | .Tuple .., .Call (.Name x _) [y, z] [] _ => decide (x = "zip") && glB sc x && f a y && f b z | _, _ => false)
    | .rev a => (match e with | .Call (.Name x _) [y] [] _ => decide (x = "reversed") && glB sc x && f a y | _ => false)
end
end Mz

set_option Elab.async false
set_option linter.all false
set_option maxRecDepth 100000
set_option autoImplicit false
/-! Mz21: a term that tells an expression means what the expression does. -/
namespace Mz
open PySem PySem.Spec L2
open PyProof.Rows hiding St

def bN : List Str := ["len", "list", "tuple", "sum", "max", "min", "sorted", "all", "any", "abs", "int", "str", "repr", "isinstance", "bool", "dict", "range", "enumerate", "zip", "reversed", "set"]
structure XOk (cl : Cl) (tb : Tb) (N : List Str) (sc ws : Scope) (X : Cx) : Prop where
  eN : X.N = N
  nd : N.Nodup
  eS : X.env.scope = sc
  cm : X.calm = true
  rep : RepOk X
  loc : ∀ x, (ws.names.lookup x = some .local ∨ ws.names.lookup x = some .cell) → Loc X.env.scope x ∧ (X.fn x = true ∨ X.env.scope.names.lookup x = some .local)
  mg : ∀ x ∈ bN, X.mg x = none
  con : ∀ p ∈ tb.cons, ∃ t, X.mg p.1 = some (.int p.2 t)
  cal : ∀ x ps kb, tb.defs.lookup x = some (ps, kb) → ∃ n f fd, FnG X.prog X.w X.K X.mg X.base n f fd ps (spU X.K ps.length (cl x)) ∧ Room n X.A ∧ X.mg x = some (.ref f) ∧ PySem.W.keepIn X.K (.ref f) = true ∧
    ∀ m ∈ kb, ∀ (s : Shared) (us ws : List Value), us.length + ws.length = ps.length → us.length = m → BindsTo s fd ⟨us, (ps.drop m).zip ws⟩ (ps.zip (us ++ ws))
section
variable {cl : Cl} {tb : Tb} {N : List Str} {sc ws : Scope} {X : Cx} {g : Gb}
theorem XOk.block (h : XOk cl tb N sc ws X) (scope : Scope) (s : Shared) (H : Hp) (C : Addr) (c : List (Str × Addr)) (fp : List Addr) : XOk cl tb N (relS scope sc) scope (X.blk s H scope (compEnvC scope c C X.env) fp) where
  eN := h.eN
  nd := h.nd
  eS := by
    show relS scope X.env.scope = _
    rw [h.eS]
  cm := h.cm
  rep := ⟨h.rep.gd, h.rep.un, h.rep.s1, h.rep.cm⟩
  loc := fun x q => by
    have keep : ∀ k, k ≠ NameKind.free → scope.names.lookup x = some k → (relS scope X.env.scope).names.lookup x = some k := fun k hk e => lookup_relS_keep hk e
    rcases q with q | q
    · exact ⟨.inl (keep _ (by decide) q), .inr (keep _ (by decide) q)⟩
    · refine ⟨.inr (keep _ (by decide) q), .inl ?_⟩
      show (scope.names.lookup x == some .cell) = true
      rw [q]; rfl
  mg := h.mg
  con := h.con
  cal := h.cal
theorem XOk.gl (h : XOk cl tb N sc ws X) {x : Str} (q : glB sc x = true) : Gl X x := by
  have q := of_decide_eq_true q
  show X.env.scope.names.lookup x = _
  rw [h.eS]; exact q
theorem XOk.var (h : XOk cl tb N sc ws X) {i : Nat} {x : Str} {pos : Pos} (q : visB N sc i x = true) : PE X (.Name x pos) (TEf X.K g (vE i)) := by
  unfold visB at q
  simp only [Bool.and_eq_true, Bool.or_eq_true, decide_eq_true_eq] at q
  obtain ⟨⟨q1, q2⟩, q3, q4⟩ := q
  refine de_var (by rw [h.eN]; exact q1) ?_ q3 q4
  show _ ∨ _ ∨ _
  rw [h.eS]
  rcases q2 with (q | q) | q
  · exact .inl q
  · exact .inr (.inl q)
  · exact .inr (.inr q)
theorem star_one {e : Expr} (h : okH e = true) (es : List Expr) (env : Env) : starEach (e :: es) env = (false, eval e env) :: starEach es env := by
  cases e <;> first | rfl | cases h
theorem plain_ix {e : Expr} (h : okH e = true) : PlainIx e := by
  cases e <;> first | (intro o i; rfl) | cases h
theorem no_mark {e : Expr} (h : okH e = true) (op : CmpOp) : behindInMarks op e = false := by
  cases e <;> first | rfl | cases h
theorem no_fold {e : Expr} (h : okH e = true) (env : Env) (x : Value) : foldedSetIterable e env x = pure x := by
  cases e <;> first | rfl | cases h
theorem star_any {pos : Pos} {env : Env} : ∀ {es : List Expr}, (∀ e ∈ es, okH e = true) → (backTo pos (starEach es env)).any (·.1) = false
  | [], _ => rfl
  | e :: es, h => by
    rw [star_one (h e List.mem_cons_self)]
    show (false || (backTo pos (starEach es env)).any (·.1)) = false
    rw [star_any fun e m => h e (List.mem_cons_of_mem _ m)]
    rfl
theorem soundL {f : Ex → Expr → Bool} (h : ∀ a e, f a e = true → okH e = true ∧ PE X e (TEf X.K g (evE cl a))) : ∀ {es : Exs} {xs : List Expr}, chkL1 f es xs = true → PA X xs (TAf X.K g (evL cl es)) ∧ ∀ e ∈ xs, okH e = true
  | .nil, [], _ => ⟨da_nil, by simp⟩
  | .cons a r, e :: es, q => by
    unfold chkL1 at q
    rw [Bool.and_eq_true] at q
    obtain ⟨h1, h2⟩ := h a e q.1
    obtain ⟨h3, h4⟩ := soundL h q.2
    exact ⟨da_cons h2 h3 (star_one h1 _ _), fun x m => (List.mem_cons.mp m).elim (fun k => k ▸ h1) (h4 x)⟩
  | .nil, _ :: _, q => by cases q
  | .cons _ _, [], q => by cases q
theorem soundK {f : Ex → Expr → Bool} (h : ∀ a e, f a e = true → okH e = true ∧ PE X e (TEf X.K g (evE cl a))) : ∀ {es : Exs} {xs : List Keyword}, chkL1 f es (xs.map (·.value)) = true → PK X xs (TAf X.K g (evL cl es))
  | .nil, [], _ => dk_nil
  | .cons a r, ⟨nm, e, kp⟩ :: es, q => by
    have q : (f a e && chkL1 f r (es.map (·.value))) = true := q
    rw [Bool.and_eq_true] at q
    exact dk_cons (h a e q.1).2 (soundK h q.2)
  | .nil, _ :: _, q => by cases q
  | .cons _ _, [], q => by cases q
theorem lenE_evL : ∀ es : Exs, LenE (evL cl es) es.len
  | .nil => lenE_nil
  | .cons a r => lenE_cons (lenE_evL r)
theorem soundAnd {f : Ex → Expr → Bool} {pos : Pos} (h : ∀ a e, f a e = true → PE X e (TEf X.K g (evE cl a)) ∧ PT X e (TTf X.K g (evE cl a))) : ∀ {es : Exs} {xs : List Expr}, chkL1 f es xs = true → xs ≠ [] →
    PE X (.BoolOp .And xs pos) (TEf X.K g (evAnd cl es)) ∧ PW X (.BoolOp .And xs pos) (TTf X.K g (evAnd cl es))
  | .nil, [], _, n => absurd rfl n
  | .cons a .nil, [e], q, _ => by
    unfold chkL1 at q
    rw [Bool.and_eq_true] at q
    obtain ⟨h1, h2⟩ := h a e q.1
    exact ⟨de_one h1, dw_and1 h2⟩
  | .cons a (.cons b r), e :: e' :: es, q, _ => by
    have q : (f a e && chkL1 f (.cons b r) (e' :: es)) = true := q
    rw [Bool.and_eq_true] at q
    obtain ⟨h1, h2⟩ := h a e q.1
    obtain ⟨h3, h4⟩ := soundAnd (pos := pos) h q.2 (by simp)
    exact ⟨de_and h1 h3, dw_and h2 h4⟩
  | .nil, _ :: _, q, _ => by cases q
  | .cons _ _, [], q, _ => by cases q
  | .cons _ .nil, _ :: _ :: _, q, _ => by
    have q : (_ && false) = true := q
    rw [Bool.and_false] at q; cases q
  | .cons _ (.cons _ _), [_], q, _ => by
    have q : (_ && false) = true := q
    rw [Bool.and_false] at q; cases q
theorem soundOr {f : Ex → Expr → Bool} {pos : Pos} (h : ∀ a e, f a e = true → PE X e (TEf X.K g (evE cl a)) ∧ PT X e (TTf X.K g (evE cl a))) : ∀ {es : Exs} {xs : List Expr}, chkL1 f es xs = true → xs ≠ [] →
    PE X (.BoolOp .Or xs pos) (TEf X.K g (evOr cl es)) ∧ PW X (.BoolOp .Or xs pos) (TTf X.K g (evOr cl es))
  | .nil, [], _, n => absurd rfl n
  | .cons a .nil, [e], q, _ => by
    unfold chkL1 at q
    rw [Bool.and_eq_true] at q
    obtain ⟨h1, h2⟩ := h a e q.1
    exact ⟨de_one h1, dw_or1 h2⟩
  | .cons a (.cons b r), e :: e' :: es, q, _ => by
    have q : (f a e && chkL1 f (.cons b r) (e' :: es)) = true := q
    rw [Bool.and_eq_true] at q
    obtain ⟨h1, h2⟩ := h a e q.1
    obtain ⟨h3, h4⟩ := soundOr (pos := pos) h q.2 (by simp)
    exact ⟨de_or h1 h3, dw_or h2 h4⟩
  | .nil, _ :: _, q, _ => by cases q
  | .cons _ _, [], q, _ => by cases q
  | .cons _ .nil, _ :: _ :: _, q, _ => by
    have q : (_ && false) = true := q
    rw [Bool.and_false] at q; cases q
  | .cons _ (.cons _ _), [_], q, _ => by
    have q : (_ && false) = true := q
    rw [Bool.and_false] at q; cases q
mutual
theorem soundTg (h : XOk cl tb N sc ws X) : ∀ {t : Tg} {e : Expr}, chkTg N ws t e = true → PG X e (TGf X.K g t)
  | .nm i, e, q => by
    cases e with
    | Name x pos =>
      have q : locB N ws i x = true := by simpa only [chkTg] using q
      unfold locB at q
      simp only [Bool.and_eq_true, Bool.or_eq_true, decide_eq_true_eq] at q
      obtain ⟨h1, h2⟩ := h.loc x q.2
      exact dg_name (by rw [h.eN]; exact h.nd) (by rw [h.eN]; exact q.1) h1 h2
    | _ => simp only [chkTg] at q; cases q
  | .tup ts, e, q => by
    cases e with
    | Tuple es k pos =>
      have q : chkTgs N ws ts es = true := by simpa only [chkTg] using q
      obtain ⟨h1, h2, h3⟩ := soundTgs h q
      exact dg_tup h.cm h1 h2 h3
    | _ => simp only [chkTg] at q; cases q
theorem soundTgs (h : XOk cl tb N sc ws X) : ∀ {ts : Tgs} {es : List Expr}, chkTgs N ws ts es = true → PGs X es (TGsf X.K g ts) ∧ (assignEach es X.env).length = ts.len ∧ (assignEach es X.env).findIdx? (·.1) = none
  | .nil, [], _ => ⟨dgs_nil, rfl, rfl⟩
  | .cons t ts, e :: es, q => by
    have q : (okH e && chkTg N ws t e && chkTgs N ws ts es) = true := by simpa only [chkTgs] using q
    simp only [Bool.and_eq_true] at q
    obtain ⟨⟨q0, q1⟩, q2⟩ := q
    have p1 := soundTg h q1
    obtain ⟨p2, p3, p4⟩ := soundTgs h q2
    have ae : assignEach (e :: es) X.env = (false, assign e X.env) :: assignEach es X.env := by cases e <;> first | rfl | cases q0
    refine ⟨dgs_cons p1 p2 (by rw [ae]; rfl), by rw [ae]; exact congrArg (· + 1) p3, ?_⟩
    rw [ae, List.findIdx?_cons, p4]
    rfl
  | .nil, _ :: _, q => by simp only [chkTgs] at q; cases q
  | .cons _ _, [], q => by simp only [chkTgs] at q; cases q
end
end
end Mz

set_option Elab.async false
set_option linter.all false
set_option maxRecDepth 100000
set_option maxHeartbeats 4000000
set_option autoImplicit false
/-! Mz22: a term that tells an expression means what the expression does (the theorem). -/
namespace Mz
open PySem PySem.Spec L2
open PyProof.Rows hiding St

section
variable {X : Cx} {g : Gb} {pos p : Pos}
theorem de_dict0 : PE X (.Dict [] [] pos) (TEf X.K g dict0E) := by
  refine peI pe_dnewK fun σ H Q h => ?_
  obtain ⟨S, z, u, z', e, h, q⟩ := h
  cases h
  intro t ht
  have np : ¬ (S t ∨ Ow g σ z.r t) := fun k => e.avTrk t k ht
  refine q _ _ (Post.fin (w := .d (.dict [])) (PostL.nil e) (Ext.upd ht) ?_)
  show Rp X.K (fun a => S a ∨ Ow g σ z.r a) _ (.dict []) (.ref t)
  rw [Rp]
  exact ⟨t, [], rfl, np, upd_same, by rw [RpK]⟩
theorem de_dict1 {k : Str} {i : Int} {j1 j2 : Nat} {p1 p2 p3 : Pos} : PE X (.Dict [some (.Constant (.str k) j1 p1)] [.List [.Constant (.int i) j2 p2] p3] pos) (TEf X.K g (dict1E k i)) := by
  refine peI (pe_disp (pps_cons pe_str (pe_lst (pa_cons pe_int pa_nil)) pps_nil) rfl rfl (by simp) (by simp)) fun σ H Q h => ?_
  obtain ⟨S, z, u, z', e, h, q⟩ := h
  cases h
  intro t ht
  refine ⟨by show 1 ≤ sizeLine; decide, fun l hl => ?_⟩
  have ntl : t ≠ l := fun k => by subst k; rw [upd_same] at hl; cases hl
  rw [upd_ne (Ne.symm ntl)] at hl
  have e1 : (upd (upd H t (.dK [])) l (.lst [.int i])) t = some (.dK []) := by rw [upd_ne ntl]; exact upd_same
  refine ⟨e1, [(.inr k, .ref l)], rfl, by simp, ?_⟩
  have np : ∀ a, H a = none → ¬ (S a ∨ Ow g σ z.r a) := fun a ha k => e.avTrk a k ha
  have x : Ext H (upd (upd (upd H t (.dK [])) l (.lst [.int i])) t (.dK (mergeK [] [(.inr k, .ref l)]))) := fun a u ha => by
    have n1 : a ≠ t := fun k => by subst k; rw [ht] at ha; cases ha
    have n2 : a ≠ l := fun k => by subst k; rw [hl] at ha; cases ha
    rw [upd_ne n1, upd_ne n2, upd_ne n1]; exact ha
  refine q _ _ (Post.fin (w := .d (.dict _)) (PostL.nil e) x ?_)
  show Rp X.K (fun a => S a ∨ Ow g σ z.r a) _ (.dict [(.str k, .list [.int i])]) (.ref t)
  rw [Rp]
  refine ⟨t, _, rfl, np t ht, upd_same, ?_⟩
  show RpK X.K _ _ _ [(.inr k, .ref l)]
  rw [RpK]
  refine ⟨_, [], rfl, rfl, ?_, by rw [RpK]⟩
  rw [Rp]
  refine ⟨l, [.int i], rfl, np l hl, ?_, .cons (by rw [Rp]) .nil⟩
  rw [upd_ne (Ne.symm ntl)]
  exact upd_same
end
theorem both {X : Cx} {g : Gb} {e : Expr} {f : MU} (h : PE X e (TEf X.K g f)) (he : ∀ whole, isTrue e X.env whole = (do let v ← whole; standAt e.pos; holding [v] (truthy v))) : PE X e (TEf X.K g f) ∧ (notIte e = true → PT X e (TTf X.K g f)) := ⟨h, fun _ => dt_val h he⟩
theorem kw_all {env : Env} {pos : Pos} : ∀ {kws : List Keyword} {ks : List Str}, kws.map (·.arg) = ks.map some → (backToKw pos (keywordEach kws env)).all (·.1.isSome) = true
  | [], _, _ => rfl
  | ⟨nm, v, p⟩ :: r, [], h => by simp at h
  | ⟨nm, v, p⟩ :: r, k :: ks, h => by
    simp only [List.map_cons, List.cons.injEq] at h
    obtain ⟨h1, h2⟩ := h
    subst h1
    exact kw_all (kws := r) h2
theorem kw_none {env : Env} {pos : Pos} : ∀ {kws : List Keyword} {ks : List Str}, kws.map (·.arg) = ks.map some → (backToKw pos (keywordEach kws env)).any (·.1.isNone) = false
  | [], _, _ => rfl
  | ⟨nm, v, p⟩ :: r, [], h => by simp at h
  | ⟨nm, v, p⟩ :: r, k :: ks, h => by
    simp only [List.map_cons, List.cons.injEq] at h
    obtain ⟨h1, h2⟩ := h
    subst h1
    exact kw_none (kws := r) h2
theorem kw_names {env : Env} {pos : Pos} : ∀ {kws : List Keyword} {ks : List Str}, kws.map (·.arg) = ks.map some → (backToKw pos (keywordEach kws env)).filterMap (·.1) = ks
  | [], [], _ => rfl
  | [], _ :: _, h => by simp at h
  | ⟨nm, v, p⟩ :: r, [], h => by simp at h
  | ⟨nm, v, p⟩ :: r, k :: ks, h => by
    simp only [List.map_cons, List.cons.injEq] at h
    obtain ⟨h1, h2⟩ := h
    subst h1
    show k :: (backToKw pos (keywordEach r env)).filterMap (·.1) = k :: ks
    rw [kw_names h2]
/-- what the check gives -/
abbrev SE (cl : Cl) (X : Cx) (g : Gb) (a : Ex) (e : Expr) : Prop := okH e = true ∧ PE X e (TEf X.K g (evE cl a)) ∧ (notIte e = true → PT X e (TTf X.K g (evE cl a)))
section
variable {cl : Cl} {tb : Tb} {N : List Str}
theorem soundI {sc ws : Scope} {X : Cx} {g : Gb} (h : XOk cl tb N sc ws X) {f : Ex → Expr → Bool} (hf : ∀ a e, f a e = true → okH e = true ∧ PE X e (TEf X.K g (evE cl a))) {it : Itr} {tg e : Expr} (q : chkE.chkI it f sc tg e = true) :
    okH e = true ∧ PI X tg e (WIf X.K g (evI cl it)) := by
  unfold chkE.chkI at q
  rw [Bool.and_eq_true] at q
  obtain ⟨ho, q⟩ := q
  refine ⟨ho, ?_⟩
  have mb : ∀ x, x ∈ bN → X.mg x = none := h.mg
  cases it with
  | val a => exact di_val (hf a e q).2
  | rg1 a =>
    dsimp only at q
    split at q
    · simp only [Bool.and_eq_true, decide_eq_true_eq] at q
      obtain ⟨⟨rfl, q1⟩, q2⟩ := q
      obtain ⟨k1, k2⟩ := hf a _ q2
      exact di_rg1 (h.gl q1) (mb _ (by decide +kernel)) (da_cons k2 da_nil (star_one k1 _ _)) (star_one k1 _ _)
    · cases q
  | rg2 a b =>
    dsimp only at q
    split at q
    · simp only [Bool.and_eq_true, decide_eq_true_eq] at q
      obtain ⟨⟨⟨rfl, q1⟩, q2⟩, q3⟩ := q
      obtain ⟨k1, k2⟩ := hf a _ q2
      obtain ⟨k3, k4⟩ := hf b _ q3
      exact di_rg2 (h.gl q1) (mb _ (by decide +kernel)) (da_cons k2 (da_cons k4 da_nil (star_one k3 _ _)) (star_one k1 _ _)) (by rw [star_one k1, star_one k3]; rfl) (star_one k3 _ _)
    · cases q
  | enum a =>
    dsimp only at q
    split at q
    · simp only [Bool.and_eq_true, decide_eq_true_eq] at q
      obtain ⟨⟨rfl, q1⟩, q2⟩ := q
      obtain ⟨k1, k2⟩ := hf a _ q2
      exact di_enum (h.gl q1) (mb _ (by decide +kernel)) (da_cons k2 da_nil (star_one k1 _ _)) (star_one k1 _ _)
    · cases q
  | zip a b =>
    dsimp only at q
    split at q
    · simp only [Bool.and_eq_true, decide_eq_true_eq] at q
      obtain ⟨⟨⟨rfl, q1⟩, q2⟩, q3⟩ := q
      obtain ⟨k1, k2⟩ := hf a _ q2
      obtain ⟨k3, k4⟩ := hf b _ q3
      exact di_zip (h.gl q1) (mb _ (by decide +kernel)) (da_cons k2 (da_cons k4 da_nil (star_one k3 _ _)) (star_one k1 _ _)) (star_one k1 _ _) (by rw [star_one k3]; rfl)
    · cases q
  | rev a =>
    dsimp only at q
    split at q
    · simp only [Bool.and_eq_true, decide_eq_true_eq] at q
      obtain ⟨⟨rfl, q1⟩, q2⟩ := q
      obtain ⟨k1, k2⟩ := hf a _ q2
      exact di_rev (h.gl q1) (mb _ (by decide +kernel)) k2 (star_one k1 _ _)
    · cases q
theorem soundE : ∀ (n : Nat) {sc ws : Scope} {X : Cx} {g : Gb}, XOk cl tb N sc ws X → ∀ (a : Ex) (e : Expr), chkE tb N n sc ws a e = true → SE cl X g a e
  | 0, _, _, _, _, _, _, _, q => by cases q
  | n + 1, sc, ws, X, g, h, a, e, q => by
    have IH : ∀ a e, chkE tb N n sc ws a e = true → SE cl X g a e := soundE n h
    have IP : ∀ a e, chkE tb N n sc ws a e = true → okH e = true ∧ PE X e (TEf X.K g (evE cl a)) := fun a e q => ⟨(IH a e q).1, (IH a e q).2.1⟩
    have mb : ∀ x, x ∈ bN → X.mg x = none := h.mg
    have hu := h.rep.un
    unfold chkE at q
    rw [Bool.and_eq_true] at q
    obtain ⟨ho, q⟩ := q
    refine ⟨ho, ?_⟩
    cases a with
    | var i =>
      dsimp only at q
      split at q
      · exact ⟨h.var q, fun _ => dt_val (h.var q) (by intro _; rfl)⟩
      · cases q
    | glob x k =>
      dsimp only at q
      split at q
      · simp only [Bool.and_eq_true, decide_eq_true_eq] at q
        obtain ⟨⟨⟨rfl, q1⟩, q2⟩, q3⟩ := q
        obtain ⟨t, ht⟩ := h.con _ q3
        exact both (de_glob (v := .int k) (h.gl q1) ht ⟨t, rfl⟩ q2 fun _ _ => by rw [Rp]) (by intro _; rfl)
      · cases q
    | cst d =>
      dsimp only at q
      split at q
      · rename_i c j pos
        have pe : PE X (.Constant c j pos) (TEf X.K g (cE d)) := by
          unfold cstB at q
          split at q
          · rw [of_decide_eq_true q]; exact de_int
          · rw [of_decide_eq_true q]; exact de_bl
          · rw [of_decide_eq_true q]; exact de_str
          · exact de_non
          · cases q
        exact ⟨pe, fun _ => dt_val pe (by intro _; rfl)⟩
      · cases q
    | tup es =>
      dsimp only at q
      split at q
      · exact both (de_tup (soundL IP q).1) (by intro _; rfl)
      · cases q
    | lst es =>
      dsimp only at q
      split at q
      · exact both (de_lst (soundL IP q).1) (by intro _; rfl)
      · cases q
    | bin op a b =>
      dsimp only at q
      split at q
      · simp only [Bool.and_eq_true, decide_eq_true_eq] at q
        obtain ⟨⟨rfl, q1⟩, q2⟩ := q
        exact both (de_bin (IP _ _ q1).2 (IP _ _ q2).2) (by intro _; rfl)
      · cases q
    | tmul a b =>
      dsimp only at q
      split at q
      · simp only [Bool.and_eq_true, decide_eq_true_eq] at q
        obtain ⟨⟨rfl, q1⟩, q2⟩ := q
        exact both (de_tmul (IP _ _ q1).2 (IP _ _ q2).2) (by intro _; rfl)
      · cases q
    | cmp op a b =>
      dsimp only at q
      split at q
      · simp only [Bool.and_eq_true, decide_eq_true_eq] at q
        obtain ⟨⟨rfl, q1⟩, q2⟩ := q
        obtain ⟨k1, k2⟩ := IP _ _ q1
        obtain ⟨k3, k4⟩ := IP _ _ q2
        exact ⟨de_cmp hu k2 k4 (no_mark k3 _), fun _ => dt_cmp hu k2 k4 (no_mark k3 _)⟩
      · cases q
    | chain op op' a b c =>
      dsimp only at q
      split at q
      · simp only [Bool.and_eq_true, decide_eq_true_eq] at q
        obtain ⟨⟨⟨⟨rfl, rfl⟩, q1⟩, q2⟩, q3⟩ := q
        obtain ⟨k1, k2⟩ := IP _ _ q1
        obtain ⟨k3, k4⟩ := IP _ _ q2
        obtain ⟨k5, k6⟩ := IP _ _ q3
        exact ⟨de_chain hu k2 k4 k6 (no_mark k5 _), fun _ => dt_chain hu k2 k4 k6 (no_mark k5 _)⟩
      · cases q
    | isc neg k a =>
      dsimp only at q
      split at q
      · rename_i x o y pos
        simp only [Bool.and_eq_true, decide_eq_true_eq] at q
        obtain ⟨⟨q0, q1⟩, q2⟩ := q
        have hb : PE X y (tC (cstV k)) := by
          unfold cstK at q1
          split at q1
          · exact pe_non
          · rw [of_decide_eq_true q1]; exact pe_bl
          · cases q1
        obtain ⟨_, k2⟩ := IP _ _ q2
        cases neg with
        | true => subst q0; exact ⟨de_isnt k2 hb, fun _ => dt_isnt k2 hb⟩
        | false => subst q0; exact ⟨de_is k2 hb, fun _ => dt_is k2 hb⟩
      · cases q
    | not a =>
      dsimp only at q
      split at q
      · rw [Bool.and_eq_true] at q
        obtain ⟨_, k2, k3⟩ := IH _ _ q.2
        exact ⟨de_not k2, fun _ => dt_not (k3 q.1)⟩
      · cases q
    | neg a =>
      dsimp only at q
      split at q
      · exact both (de_neg (IP _ _ q).2) (by intro _; rfl)
      · cases q
    | and es =>
      dsimp only at q
      split at q
      · simp only [Bool.and_eq_true, decide_eq_true_eq] at q
        have IB : ∀ a e, (notIte e && chkE tb N n sc ws a e) = true → PE X e (TEf X.K g (evE cl a)) ∧ PT X e (TTf X.K g (evE cl a)) := fun a e q => by
          rw [Bool.and_eq_true] at q
          obtain ⟨_, k2, k3⟩ := IH _ _ q.2
          exact ⟨k2, k3 q.1⟩
        have k := soundAnd (pos := by assumption) IB q.2 q.1
        exact ⟨k.1, fun _ => k.2.pt⟩
      · cases q
    | or es =>
      dsimp only at q
      split at q
      · simp only [Bool.and_eq_true, decide_eq_true_eq] at q
        have IB : ∀ a e, (notIte e && chkE tb N n sc ws a e) = true → PE X e (TEf X.K g (evE cl a)) ∧ PT X e (TTf X.K g (evE cl a)) := fun a e q => by
          rw [Bool.and_eq_true] at q
          obtain ⟨_, k2, k3⟩ := IH _ _ q.2
          exact ⟨k2, k3 q.1⟩
        have k := soundOr (pos := by assumption) IB q.2 q.1
        exact ⟨k.1, fun _ => k.2.pt⟩
      · cases q
    | ite c a b =>
      dsimp only at q
      split at q
      · simp only [Bool.and_eq_true] at q
        obtain ⟨⟨⟨q0, q1⟩, q2⟩, q3⟩ := q
        obtain ⟨_, _, k3⟩ := IH _ _ q1
        exact ⟨de_ite (k3 q0) (IP _ _ q2).2 (IP _ _ q3).2, fun k => by cases k⟩
      · cases q
    | idx a b =>
      dsimp only at q
      split at q
      · rw [Bool.and_eq_true] at q
        obtain ⟨_, k2⟩ := IP _ _ q.1
        obtain ⟨k3, k4⟩ := IP _ _ q.2
        exact both (de_idx k2 k4 (plain_ix k3)) (by intro _; rfl)
      · cases q
    | slc0 a =>
      dsimp only at q
      split at q
      · exact both (de_slc0 (IP _ _ q).2) (by intro _; rfl)
      · cases q
    | slcL a l =>
      dsimp only at q
      split at q
      · rw [Bool.and_eq_true] at q
        exact both (de_slcL (IP _ _ q.1).2 (IP _ _ q.2).2) (by intro _; rfl)
      · cases q
    | slcH a l =>
      dsimp only at q
      split at q
      · rw [Bool.and_eq_true] at q
        exact both (de_slcH (IP _ _ q.1).2 (IP _ _ q.2).2) (by intro _; rfl)
      · cases q
    | slcLH a l r =>
      dsimp only at q
      split at q
      · simp only [Bool.and_eq_true] at q
        exact both (de_slcLH (IP _ _ q.1.1).2 (IP _ _ q.1.2).2 (IP _ _ q.2).2) (by intro _; rfl)
      · cases q
    | bi b es =>
      dsimp only at q
      split at q
      · rename_i x px xs pos
        simp only [Bool.and_eq_true, decide_eq_true_eq] at q
        obtain ⟨⟨⟨rfl, q1⟩, q2⟩, q3⟩ := q
        obtain ⟨k1, k2⟩ := soundL IP q3
        cases xs with
        | nil => exact absurd rfl q2
        | cons y ys => exact both (de_bi h.rep b (h.gl q1) (mb _ (by cases b <;> decide +kernel)) k1 (star_one (k2 y List.mem_cons_self) _ _) (star_any fun e m => k2 e (List.mem_cons_of_mem _ m))) (by intro _; rfl)
      · cases q
    | isi t a =>
      dsimp only at q
      split at q
      · simp only [Bool.and_eq_true, decide_eq_true_eq] at q
        obtain ⟨⟨⟨⟨rfl, rfl⟩, q1⟩, q2⟩, q3⟩ := q
        obtain ⟨k1, k2⟩ := IP _ _ q3
        exact both (de_isi t (h.gl q1) (mb _ (by decide +kernel)) (h.gl q2) (mb _ (by cases t <;> decide +kernel)) k2 (star_one k1 _ _)) (by intro _; rfl)
      · cases q
    | lrg1 a =>
      dsimp only at q
      split at q
      · simp only [Bool.and_eq_true, decide_eq_true_eq] at q
        obtain ⟨⟨⟨⟨rfl, rfl⟩, q1⟩, q2⟩, q3⟩ := q
        obtain ⟨k1, k2⟩ := IP _ _ q3
        exact both (de_listRg1 h.cm (h.gl q1) (mb _ (by decide +kernel)) (h.gl q2) (mb _ (by decide +kernel)) k2 (star_one k1 _ _)) (by intro _; rfl)
      · cases q
    | lrev a =>
      dsimp only at q
      split at q
      · simp only [Bool.and_eq_true, decide_eq_true_eq] at q
        obtain ⟨⟨⟨⟨rfl, rfl⟩, q1⟩, q2⟩, q3⟩ := q
        obtain ⟨k1, k2⟩ := IP _ _ q3
        exact both (de_listRev h.cm (h.gl q1) (mb _ (by decide +kernel)) (h.gl q2) (mb _ (by decide +kernel)) k2 (star_one k1 _ _)) (by intro _; rfl)
      · cases q
    | lset a =>
      dsimp only at q
      split at q
      · simp only [Bool.and_eq_true, decide_eq_true_eq] at q
        obtain ⟨⟨⟨⟨rfl, rfl⟩, q1⟩, q2⟩, q3⟩ := q
        obtain ⟨k1, k2⟩ := IP _ _ q3
        exact both (de_lenSet (h.gl q1) (mb _ (by decide +kernel)) (h.gl q2) (mb _ (by decide +kernel)) k2 h.cm (star_one k1 _ _)) (by intro _; rfl)
      · cases q
    | ldict a =>
      dsimp only at q
      split at q
      · simp only [Bool.and_eq_true, decide_eq_true_eq] at q
        obtain ⟨⟨⟨⟨rfl, rfl⟩, q1⟩, q2⟩, q3⟩ := q
        obtain ⟨k1, k2⟩ := IP _ _ q3
        exact both (de_lenDict (h.gl q1) (mb _ (by decide +kernel)) (h.gl q2) (mb _ (by decide +kernel)) k2 h.cm (star_one k1 _ _)) (by intro _; rfl)
      · cases q
    | app i a =>
      dsimp only at q
      split at q
      · simp only [Bool.and_eq_true, decide_eq_true_eq] at q
        obtain ⟨⟨⟨rfl, q1⟩, q2⟩, q3⟩ := q
        obtain ⟨k1, k2⟩ := IP _ _ q3
        exact both (de_append (h.var q2) k2 rfl (star_one k1 _ _) (by rw [star_one k1]; rfl) q1) (by intro _; rfl)
      · cases q
    | ext i a =>
      dsimp only at q
      split at q
      · simp only [Bool.and_eq_true, decide_eq_true_eq] at q
        obtain ⟨⟨⟨rfl, q1⟩, q2⟩, q3⟩ := q
        obtain ⟨k1, k2⟩ := IP _ _ q3
        exact both (de_extend (h.var q2) k2 rfl (star_one k1 _ _) (by rw [star_one k1]; rfl) q1) (by intro _; rfl)
      · cases q
    | pop i =>
      dsimp only at q
      split at q
      · simp only [Bool.and_eq_true, decide_eq_true_eq] at q
        obtain ⟨⟨rfl, q1⟩, q2⟩ := q
        exact both (de_pop (h.var q2) rfl q1) (by intro _; rfl)
      · cases q
    | popAt i a =>
      dsimp only at q
      split at q
      · simp only [Bool.and_eq_true, decide_eq_true_eq] at q
        obtain ⟨⟨⟨rfl, q1⟩, q2⟩, q3⟩ := q
        obtain ⟨k1, k2⟩ := IP _ _ q3
        exact both (de_popAt (h.var q2) k2 rfl (star_one k1 _ _) (by rw [star_one k1]; rfl) q1) (by intro _; rfl)
      · cases q
    | cnt a b =>
      dsimp only at q
      split at q
      · simp only [Bool.and_eq_true, decide_eq_true_eq] at q
        obtain ⟨⟨⟨rfl, q1⟩, q2⟩, q3⟩ := q
        obtain ⟨k1, k2⟩ := IP _ _ q2
        obtain ⟨k3, k4⟩ := IP _ _ q3
        exact both (de_count k2 k4 rfl (star_one k3 _ _) (by rw [star_one k3]; rfl) q1) (by intro _; rfl)
      · cases q
    | comp it t c el own =>
      dsimp only at q
      split at q
      · rename_i x tg iter ifs scope pos
        simp only [Bool.and_eq_true, List.all_eq_true, decide_eq_true_eq] at q
        obtain ⟨⟨⟨⟨⟨q1, q2⟩, q3⟩, q4⟩, q5⟩, q6⟩ := q
        obtain ⟨i1, i2⟩ := soundI h IP q2
        have blk := fun (s : Shared) (H : Hp) (C : Addr) (l : List (Str × Addr)) (fp : List Addr) => h.block scope s H C l fp
        refine both (de_lc h.cm (by rw [h.eN]; exact h.nd) i2 (blkOk_by (by rw [h.eN, h.eS]; exact q1)) (fun s H C l fp => soundTg (blk s H C l fp) q3) (fun s H C l fp => ?_) (fun s H C l fp => (soundE n (blk s H C l fp) _ _ q5).2.1) (no_fold i1 _) q6) (by intro _; rfl)
        split at q4
        · have ec : c = .cst (.bool true) := by
            unfold isTrueC at q4
            split at q4
            · rfl
            · cases q4
          subst ec
          exact dts_nil
        · rw [Bool.and_eq_true] at q4
          exact pts_one ((soundE n (blk s H C l fp) _ _ q4.2).2.2 q4.1)
        · cases q4
      · cases q
    | call x es ks =>
      dsimp only at q
      split at q
      · rename_i y py xs kws pos
        simp only [Bool.and_eq_true, decide_eq_true_eq] at q
        obtain ⟨⟨⟨⟨⟨rfl, q1⟩, q2⟩, q3⟩, q4⟩, q5⟩ := q
        split at q3
        · rename_i ps kb hd
          simp only [Bool.and_eq_true, decide_eq_true_eq] at q3
          obtain ⟨⟨q6, q7⟩, q8⟩ := q3
          obtain ⟨m, f, fd, F, hr, hm, hk, hb⟩ := h.cal _ _ _ hd
          obtain ⟨k1, k2⟩ := soundL IP q4
          have k3 := soundK IP q5
          have q8 := of_decide_eq_true q8
          have allk : (backToKw pos (keywordEach kws X.env)).all (·.1.isSome) = true := kw_all q8
          refine both ?_ (by intro _; rfl)
          cases xs with
          | nil =>
            cases es with
            | cons _ _ => cases q4
            | nil => exact de_call0 F hr h.rep.gd (h.gl q1) hm hk (fun s us ws => hb 0 q7 s us ws) k3 (by have := lenE_evL (cl := cl) ks; rwa [show ks.len = ps.length by simpa [Exs.len] using q6] at this) q2 allk (kw_names q8) (kw_none q8)
          | cons e1 er =>
            exact de_call F hr h.rep.gd (h.gl q1) hm hk (fun s us ws => hb es.len q7 s us ws) k1 k3 (lenE_evL es) (lenE_evL ks) q6 q2 allk (kw_names q8) (star_one (k2 e1 List.mem_cons_self) _ _) (star_any k2) (kw_none q8)
        · cases q3
      · cases q
    | bix i m =>
      dsimp only at q
      split at q
      · simp only [Bool.and_eq_true, decide_eq_true_eq] at q
        obtain ⟨q1, rfl⟩ := q
        exact both (de_bagIx (h.var q1) de_int (by intro _ _; rfl)) (by intro _; rfl)
      · cases q
    | bnil i =>
      dsimp only at q
      split at q
      · simp only [Bool.and_eq_true, decide_eq_true_eq] at q
        obtain ⟨⟨rfl, q1⟩, rfl⟩ := q
        exact ⟨de_bagNil hu (de_bag0 (h.var q1) de_int (by intro _ _; rfl)) rfl, fun _ => dt_bagNil hu (de_bag0 (h.var q1) de_int (by intro _ _; rfl)) rfl⟩
      · cases q
    | bpop i =>
      dsimp only at q
      split at q
      · simp only [Bool.and_eq_true, decide_eq_true_eq] at q
        obtain ⟨⟨⟨rfl, q1⟩, q2⟩, rfl⟩ := q
        exact both (de_bagPop (de_bag0 (h.var q2) de_int (by intro _ _; rfl)) rfl q1) (by intro _; rfl)
      · cases q
    | dict0 =>
      dsimp only at q
      split at q
      · exact both de_dict0 (by intro _; rfl)
      · cases q
    | dict1 k i =>
      dsimp only at q
      split at q
      · simp only [Bool.and_eq_true, decide_eq_true_eq] at q
        obtain ⟨rfl, rfl⟩ := q
        exact both de_dict1 (by intro _; rfl)
      · cases q
end
end Mz

set_option Elab.async false
set_option linter.all false
set_option maxRecDepth 100000
set_option maxHeartbeats 4000000
set_option autoImplicit false
/-! Mz23: terms for statements. -/
namespace Mz
open PySem PySem.Spec L2
open PyProof.Rows hiding St

mutual
inductive Sm where
  | skip | brk | cnt | expr (a : Ex) | set (i : Nat) (a : Ex) | par (is : List Nat) (es : Exs) | setIx (i : Nat) (a ix : Ex) | bset (i : Nat) (m : Bool) (a : Ex)
  | cond (c : Ex) (a b : Sms) | loop (it : Itr) (t : Tg) (b : Sms) | ret (a : Ex) | ret0
inductive Sms where
  | nil | cons (s : Sm) (r : Sms)
end
mutual
def evS (cl : Cl) : Sm → MS
  | .skip => skipS
  | .brk => brkS
  | .cnt => cntS
  | .expr a => exprS (evE cl a)
  | .set i a => setS i (evE cl a)
  | .par is es => parS is (evL cl es)
  | .setIx i a ix => setIxS i (evE cl a) (evE cl ix)
  | .bset i m a => bagSetS i m (evE cl a)
  | .cond c a b => ifS (evE cl c) (evSs cl a) (evSs cl b)
  | .loop it t b => forS (evI cl it) t (evSs cl b)
  | .ret a => retS (evE cl a)
  | .ret0 => retS (cE .none)
def evSs (cl : Cl) : Sms → MS
  | .nil => skipS
  | .cons s r => seqS (evS cl s) (evSs cl r)
end
def swB (sc : Scope) (e : Expr) (y : Str) (py : Pos) : Bool := match e with
  | .ListComp _ _ s pos => sc.names.lookup y == some .local && py.line == pos.line && !(s.names.any fun (n, k) => n == y && (k == .local || k == .cell))
  | _ => false
def notComp : Expr → Bool
  | .ListComp .. => false
  | .SetComp .. => false
  | .DictComp .. => false
  | _ => true
def swM (sc : Scope) (ts vs : List Expr) : Option (Option (List Str)) :=
  if (!(ts.length == 2 || ts.length == 3) || vs.length != ts.length) = true then some none else
  if (vs.any fun | .Starred .. => true | _ => false) = true then some none else
  let line := (ts.head?.map (·.pos.line)).getD 0
  let names := ts.filterMap fun
    | .Name id pos => if (sc.names.lookup id == some .local && pos.line == line) = true then some id else none
    | _ => none
  if (names.length != ts.length || names.eraseDups.length != names.length) = true then some none else
  if (vs.all (foldedForSure 8)) = true then some none else
  if (vs.all (constantsAlone 8)) = true then none else some (some names)
theorem swM_ok {sc : Scope} {ts vs : List Expr} {r : Option (List Str)} {env : Env} {k1 k2 : Nat} {p1 p2 : Pos} (hs : env.scope = sc) (hk : sc.kind = .function) (h : swM sc ts vs = some r) : swappedStores [.Tuple ts k1 p1] (.Tuple vs k2 p2) env = pure r := by
  have hb : env.blockKind = .function := by unfold Env.blockKind; rw [hs, hk]; rfl
  have ko : ∀ id, env.kindOf id = sc.names.lookup id := fun id => by rw [← hs]; rfl
  unfold swappedStores
  unfold swM at h
  have hf : (ScopeKind.function != ScopeKind.function) = false := rfl
  simp only [hb, ko, hf, Bool.or_false]
  split at h
  · rename_i c
    cases h
    exact if_pos c
  · rename_i c
    refine (if_neg c).trans ?_
    split at h
    · rename_i c2
      cases h
      exact if_pos c2
    · rename_i c2
      refine (if_neg c2).trans ?_
      dsimp only at h
      split at h
      · rename_i c3
        cases h
        exact if_pos c3
      · rename_i c3
        refine (if_neg c3).trans ?_
        split at h
        · rename_i c4
          cases h
          exact if_pos c4
        · rename_i c4
          refine (if_neg c4).trans ?_
          split at h
          · cases h
          · rename_i c5
            cases h
            exact if_neg c5
theorem swB_ok {sc : Scope} {e : Expr} {y : Str} {py : Pos} {l : Nat} {env : Env} (hs : env.scope = sc) (hk : sc.kind = .function) (h : notComp e = true ∨ ∃ el gs s p, e = .ListComp el gs s p) : swapsWith e (some (.Name y py)) l env = pure (swB sc e y py) := by
  have hb : env.blockKind = .function := by unfold Env.blockKind; rw [hs, hk]; rfl
  have ko : env.kindOf y = sc.names.lookup y := by rw [← hs]; rfl
  rcases h with h | ⟨el, gs, s, p, rfl⟩
  · cases e <;> first | rfl | cases h
  · unfold swapsWith swB
    simp only [hb, ko]
    rfl
theorem sw_none {e : Expr} {l : Nat} {env : Env} (h : notComp e = true) : swapsWith e none l env = pure false := by
  cases e <;> first | rfl | cases h
theorem sw_sub {e o i : Expr} {p : Pos} {l : Nat} {env : Env} : swapsWithSole [.Subscript o i p] e l env = pure false := by
  cases e <;> rfl
theorem ss_sub {e o i : Expr} {p : Pos} {env : Env} : swappedStores [.Subscript o i p] e env = pure none := by
  cases e <;> rfl

/-! ### parallel stores -/
def gNames : List Nat → TGs
  | [] => gNil
  | i :: is => gCons (gName i) (gNames is)
theorem gNames_ok : ∀ {is : List Nat} {vs : List V} {σ : St} {H : Hp} {Q : St → Hp → Prop}, vs.length = is.length → Q (setL σ is vs) H → gNames is vs σ H Q
  | [], [], σ, H, Q, _, q => ⟨rfl, q⟩
  | i :: is, v :: vs, σ, H, Q, h, q => ⟨v, vs, rfl, gNames_ok (by simpa using h) q⟩
  | [], _ :: _, _, _, _, h, _ => by simp at h
  | _ :: _, [], _, _, _, h, _ => by simp at h
def chkNs (N : List Str) (ws : Scope) : List Nat → List Expr → Bool
  | [], [] => true
  | i :: is, .Name x _ :: es => locB N ws i x && chkNs N ws is es
  | _, _ => false
section
variable {cl : Cl} {tb : Tb} {N : List Str} {sc ws : Scope} {X : Cx} {g : Gb}
theorem soundNs (h : XOk cl tb N sc ws X) : ∀ {is : List Nat} {es : List Expr}, chkNs N ws is es = true → PGs X es (gNames is) ∧ (assignEach es X.env).length = is.length ∧ (assignEach es X.env).findIdx? (·.1) = none
  | [], [], _ => ⟨pgs_nil, rfl, rfl⟩
  | i :: is, .Name x p :: es, q => by
    have q : (locB N ws i x && chkNs N ws is es) = true := by simpa only [chkNs] using q
    rw [Bool.and_eq_true] at q
    obtain ⟨q1, q2⟩ := q
    unfold locB at q1
    simp only [Bool.and_eq_true, Bool.or_eq_true, decide_eq_true_eq] at q1
    obtain ⟨h1, h2⟩ := h.loc x q1.2
    obtain ⟨p2, p3, p4⟩ := soundNs h q2
    refine ⟨pgs_cons (pg_name (by rw [h.eN]; exact h.nd) (by rw [h.eN]; exact q1.1) h1 h2) p2 rfl, congrArg (· + 1) p3, ?_⟩
    show ((false, assign (.Name x p) X.env) :: assignEach es X.env).findIdx? (·.1) = none
    rw [List.findIdx?_cons, p4]
    rfl
  | [], _ :: _, q => by simp [chkNs] at q
  | _ :: _, [], q => by simp [chkNs] at q
  | i :: is, e :: es, q => by
    cases e with
    | Name x p => 
      have q : (locB N ws i x && chkNs N ws is es) = true := by simpa only [chkNs] using q
      rw [Bool.and_eq_true] at q
      obtain ⟨q1, q2⟩ := q
      unfold locB at q1
      simp only [Bool.and_eq_true, Bool.or_eq_true, decide_eq_true_eq] at q1
      obtain ⟨h1, h2⟩ := h.loc x q1.2
      obtain ⟨p2, p3, p4⟩ := soundNs h q2
      refine ⟨pgs_cons (pg_name (by rw [h.eN]; exact h.nd) (by rw [h.eN]; exact q1.1) h1 h2) p2 rfl, congrArg (· + 1) p3, ?_⟩
      show ((false, assign (.Name x p) X.env) :: assignEach es X.env).findIdx? (·.1) = none
      rw [List.findIdx?_cons, p4]
      rfl
    | _ => simp [chkNs] at q
theorem ps_parT (h : XOk cl tb N sc ws X) (hk : sc.kind = .function) {is : List Nat} {ts vs : List Expr} {k1 k2 : Nat} {p1 p2 pos : Pos} {fl : ML} (hn : chkNs N ws is ts = true) (h100 : is.length ≤ 100) (ha : PA X vs (TAf X.K g fl)) (hs : swM sc ts vs = some none) :
    PS X (.Assign [.Tuple ts k1 p1] (.Tuple vs k2 p2) pos) (TSf X.K g (parS is fl)) := by
  obtain ⟨h1, h2, h3⟩ := soundNs h hn
  refine psI (ps_asg (pe_tup ha) (pg_tup h.cm h1 h2 h3) rfl (swM_ok h.eS hk hs) rfl) fun D σ H q => ?_
  obtain ⟨S, z, us, z', e, e1, q⟩ := ts_par q
  refine ⟨S, z, us, z', e, e1, fun xs H1 p => ?_⟩
  obtain ⟨hl, q⟩ := q xs H1 p
  refine ⟨Nat.le_of_lt (small1000 (by rw [hl]; omega)), fun t ht => ⟨t, xs, rfl, .inl (.inl upd_same), hl, gNames_ok hl (q _ (Ext.upd ht))⟩⟩
def plainL (sc : Scope) (e : Expr) : Bool := match e with
  | .Name x _ => decide (sc.names.lookup x = some .local)
  | _ => false
theorem ps_par2T (h : XOk cl tb N sc ws X) (hk : sc.kind = .function) {i j : Nat} {x y : Str} {a b : Expr} {k1 k2 : Nat} {px py p1 p2 pos : Pos} {fl : ML} (hi : N[i]? = some x) (hj : N[j]? = some y) (hij : i ≠ j) (hx : sc.names.lookup x = some .local) (hy : sc.names.lookup y = some .local)
    (ha : PA X [a, b] (TAf X.K g fl)) (hs : swM sc [.Name x px, .Name y py] [a, b] = some (some [x, y])) : PS X (.Assign [.Tuple [.Name x px, .Name y py] k1 p1] (.Tuple [a, b] k2 p2) pos) (TSf X.K g (parS [i, j] fl)) := by
  refine psI (ps_par h.cm (by rw [h.eN]; exact h.nd) (by rw [h.eN]; exact hi) (by rw [h.eN]; exact hj) hij (by rw [h.eS]; exact hx) (by rw [h.eS]; exact hy) ha (swM_ok h.eS hk hs) rfl) fun D σ H q => ?_
  obtain ⟨S, z, us, z', e, e1, q⟩ := ts_par q
  refine ⟨S, z, us, z', e, e1, fun xs H1 p => ?_⟩
  obtain ⟨hl, q⟩ := q xs H1 p
  match xs, hl with
  | [v, w], _ => exact ⟨v, w, rfl, q _ Ext.refl⟩
theorem ps_par3T (h : XOk cl tb N sc ws X) (hk : sc.kind = .function) {i j l : Nat} {x y t : Str} {a b c : Expr} {k1 k2 : Nat} {px py pt p1 p2 pos : Pos} {fl : ML} (hi : N[i]? = some x) (hj : N[j]? = some y) (hl : N[l]? = some t) (hij : i ≠ j) (hil : i ≠ l) (hjl : j ≠ l)
    (hx : sc.names.lookup x = some .local) (hy : sc.names.lookup y = some .local) (ht : sc.names.lookup t = some .local) (ha : PA X [a, b, c] (TAf X.K g fl)) (hs : swM sc [.Name x px, .Name y py, .Name t pt] [a, b, c] = some (some [x, y, t])) :
    PS X (.Assign [.Tuple [.Name x px, .Name y py, .Name t pt] k1 p1] (.Tuple [a, b, c] k2 p2) pos) (TSf X.K g (parS [i, j, l] fl)) := by
  refine psI (ps_par3 h.cm (by rw [h.eN]; exact h.nd) (by rw [h.eN]; exact hi) (by rw [h.eN]; exact hj) (by rw [h.eN]; exact hl) hij hil hjl (by rw [h.eS]; exact hx) (by rw [h.eS]; exact hy) (by rw [h.eS]; exact ht) ha (swM_ok h.eS hk hs) rfl) fun D σ H q => ?_
  obtain ⟨S, z, us, z', e, e1, q⟩ := ts_par q
  refine ⟨S, z, us, z', e, e1, fun xs H1 p => ?_⟩
  obtain ⟨hl, q⟩ := q xs H1 p
  match xs, hl with
  | [u, v, w], _ => exact ⟨u, v, w, rfl, q _ Ext.refl⟩
end
end Mz

set_option Elab.async false
set_option linter.all false
set_option maxRecDepth 100000
set_option maxHeartbeats 4000000
set_option autoImplicit false
/-! Mz24: a term that tells a statement means what the statement does. -/
namespace Mz
open PySem PySem.Spec L2
open PyProof.Rows hiding St

def chkPar (N : List Str) (sc : Scope) (is : List Nat) (ts vs : List Expr) : Bool := match swM sc ts vs with
  | some none => chkNs N sc is ts && decide (is.length ≤ 100)
  | some (some l) => (match is, ts, vs, l with
    | [i, j], [.Name x _, .Name y _], [_, _], [x', y'] => decide (x' = x) && decide (y' = y) && decide (N[i]? = some x) && decide (N[j]? = some y) && decide (i ≠ j) && decide (sc.names.lookup x = some .local) && decide (sc.names.lookup y = some .local)
    | [i, j, l], [.Name x _, .Name y _, .Name t _], [_, _, _], [x', y', t'] => decide (x' = x) && decide (y' = y) && decide (t' = t) && decide (N[i]? = some x) && decide (N[j]? = some y) && decide (N[l]? = some t) && decide (i ≠ j) && decide (i ≠ l) && decide (j ≠ l) &&
      decide (sc.names.lookup x = some .local) && decide (sc.names.lookup y = some .local) && decide (sc.names.lookup t = some .local)
    | _, _, _, _ => false)
  | none => false
section
variable (tb : Tb) (N : List Str) (n : Nat) (sc : Scope)
mutual
def chkS : Sm → Stmt → Bool
  | .skip, s => (match s with | .Pass _ => true | .Expr (.Constant (.str _) _ _) _ => true | _ => false)
  | .brk, s => (match s with | .Break _ => true | _ => false)
  | .cnt, s => (match s with | .Continue _ => true | _ => false)
  | .expr a, s => (match s with | .Expr e _ => notComp e && chkE tb N n sc sc a e | _ => false)
  | .set i a, s => (match s with
    | .Assign [.Name x px] e _ => locB N sc i x && chkE tb N (n + 1) sc sc a e && (notComp e || !(swB sc e x px) || (match a, e with
        | .comp _ _ _ _ _, .ListComp _ [⟨_, _, _, 0⟩] _ _ => true
        | _, _ => false))
    | _ => false)
  | .par is es, s => (match s with | .Assign [.Tuple ts _ _] (.Tuple vs _ _) _ => chkPar N sc is ts vs && chkL1 (chkE tb N n sc sc) es vs | _ => false)
  | .setIx i a ix, s => (match s with | .Assign [.Subscript (.Name x _) y _] e _ => visB N sc i x && chkE tb N n sc sc ix y && chkE tb N n sc sc a e | _ => false)
  | .bset i m a, s => (match s with | .Assign [.Subscript (.Name x _) (.Constant (.int j) _ _) _] e _ => visB N sc i x && decide (j = bagJ m) && chkE tb N n sc sc a e | _ => false)
  | .cond c a b, s => (match s with | .If x y z _ => notIte x && chkE tb N n sc sc c x && chkSs a y && chkSs b z | _ => false)
  | .loop it t b, s => (match s with | .For tg iter body [] _ => chkE.chkI it (chkE tb N n sc sc) sc tg iter && chkTg N sc t tg && chkSs b body | _ => false)
  | .ret a, s => (match s with | .Return (some e) _ => chkE tb N n sc sc a e | _ => false)
  | .ret0, s => (match s with | .Return none _ => true | _ => false)
def chkSs : Sms → List Stmt → Bool
  | .nil, [] => true
  | .cons s r, t :: ts => chkS s t && chkSs r ts
  | _, _ => false
end
end
section
variable {cl : Cl} {tb : Tb} {N : List Str} {n : Nat} {sc : Scope} {X : Cx} {g : Gb}
theorem soundPar (h : XOk cl tb N sc sc X) (hk : sc.kind = .function) {is : List Nat} {ts vs : List Expr} {k1 k2 : Nat} {p1 p2 pos : Pos} {fl : ML} (q : chkPar N sc is ts vs = true) (ha : PA X vs (TAf X.K g fl)) :
    PS X (.Assign [.Tuple ts k1 p1] (.Tuple vs k2 p2) pos) (TSf X.K g (parS is fl)) := by
  unfold chkPar at q
  split at q
  · rename_i hs
    simp only [Bool.and_eq_true, decide_eq_true_eq] at q
    exact ps_parT h hk q.1 q.2 ha hs
  · rename_i l hs
    split at q
    · simp only [Bool.and_eq_true, decide_eq_true_eq] at q
      obtain ⟨⟨⟨⟨⟨⟨rfl, rfl⟩, q1⟩, q2⟩, q3⟩, q4⟩, q5⟩ := q
      exact ps_par2T h hk q1 q2 q3 q4 q5 ha hs
    · simp only [Bool.and_eq_true, decide_eq_true_eq] at q
      obtain ⟨⟨⟨⟨⟨⟨⟨⟨⟨⟨⟨rfl, rfl⟩, rfl⟩, q1⟩, q2⟩, q3⟩, q4⟩, q5⟩, q6⟩, q7⟩, q8⟩, q9⟩ := q
      exact ps_par3T h hk q1 q2 q3 q4 q5 q6 q7 q8 q9 ha hs
    · cases q
  · cases q
theorem assign_sub {o y : Expr} {p : Pos} {env : Env} (h : okH y = true) : ∀ v, assign (.Subscript o y p) env v = (do
    let ov ← holding [v] (eval o env)
    let iv ← holding [v, ov] (eval y env)
    standAt p
    holding [v, ov, iv] (setItem ov iv v)
    release [v, ov, iv] []) := by
  intro v
  cases y <;> first | rfl | cases h
/-- y = [..] on one line -/
theorem soundSetC (h : XOk cl tb N sc sc X) (hk : sc.kind = .function) {i : Nat} {y : Str} {py pos spos : Pos} {x tg iter : Expr} {ifs : List Expr} {scope : Scope} {it : Itr} {t : Tg} {c el : Ex} {own : List (Str × Nat)} (hi : N[i]? = some y)
    (hsw : swB sc (.ListComp x [⟨tg, iter, ifs, 0⟩] scope pos) y py = true) (q : chkE tb N (n + 1) sc sc (.comp it t c el own) (.ListComp x [⟨tg, iter, ifs, 0⟩] scope pos) = true) :
    PS X (.Assign [.Name y py] (.ListComp x [⟨tg, iter, ifs, 0⟩] scope pos) spos) (TSf X.K g (setS i (evE cl (.comp it t c el own)))) := by
  have hw := swB_ok (e := .ListComp x [⟨tg, iter, ifs, 0⟩] scope pos) (y := y) (py := py) (l := spos.line) h.eS hk (.inr ⟨_, _, _, _, rfl⟩)
  rw [hsw] at hw
  have hyl : sc.names.lookup y = some .local := by
    unfold swB at hsw
    simp only [Bool.and_eq_true, beq_iff_eq] at hsw
    exact hsw.1.1
  unfold chkE at q
  rw [Bool.and_eq_true] at q
  obtain ⟨_, q⟩ := q
  dsimp only at q
  simp only [Bool.and_eq_true, List.all_eq_true, decide_eq_true_eq] at q
  obtain ⟨⟨⟨⟨⟨q1, q2⟩, q3⟩, q4⟩, q5⟩, q6⟩ := q
  obtain ⟨i1, i2⟩ := soundI (g := g) h (fun a e q => ⟨(soundE (g := g) n h a e q).1, (soundE (g := g) n h a e q).2.1⟩) q2
  have blk := fun (s : Shared) (H : Hp) (C : Addr) (l : List (Str × Addr)) (fp : List Addr) => h.block scope s H C l fp
  refine psI (ps_setLc h.cm (by rw [h.eN]; exact h.nd) (by rw [h.eN]; exact hi) (by rw [h.eS]; exact hyl) hw i2 (blkOk_by (by rw [h.eN, h.eS]; exact q1)) (fun s H C l fp => soundTg (blk s H C l fp) q3) (tt := TTf X.K g (evE cl c)) (fun s H C l fp => ?_) (fun s H C l fp => (soundE n (g := g) (blk s H C l fp) _ _ q5).2.1) (no_fold i1 _)) fun D σ H q => lc_law q6 (ts_set q)
  split at q4
  · have ec : c = .cst (.bool true) := by
      unfold isTrueC at q4
      split at q4
      · rfl
      · cases q4
    subst ec
    exact dts_nil
  · rw [Bool.and_eq_true] at q4
    exact pts_one ((soundE n (blk s H C l fp) _ _ q4.2).2.2 q4.1)
  · cases q4
mutual
theorem soundS (h : XOk cl tb N sc sc X) (hk : sc.kind = .function) (hp : PassesOwn (model X.prog X.w) X.A X.env X.xe) : ∀ (s : Sm) (t : Stmt), chkS tb N n sc s t = true → PS X t (TSf X.K g (evS cl s))
  | .skip, t, q => by
    unfold chkS at q
    split at q
    · exact psI ps_pass fun D σ H q => ts_skip q
    · exact psI ps_doc fun D σ H q => ts_skip q
    · cases q
  | .brk, t, q => by
    unfold chkS at q
    split at q
    · exact psI ps_break fun D σ H q => ts_brk q
    · cases q
  | .cnt, t, q => by
    unfold chkS at q
    split at q
    · exact psI ps_continue fun D σ H q => ts_cnt q
    · cases q
  | .expr a, t, q => by
    unfold chkS at q
    split at q
    · rw [Bool.and_eq_true] at q
      exact psI (ps_expr (soundE n h a _ q.2).2.1 (sw_none q.1)) fun D σ H q => ts_expr q
    · cases q
  | .set i a, t, q => by
    unfold chkS at q
    split at q
    · rename_i x px e pos
      simp only [Bool.and_eq_true, Bool.or_eq_true] at q
      obtain ⟨⟨q1, q2⟩, q3⟩ := q
      have q1' := q1
      unfold locB at q1'
      simp only [Bool.and_eq_true, Bool.or_eq_true, decide_eq_true_eq] at q1'
      obtain ⟨h1, h2⟩ := h.loc x q1'.2
      obtain ⟨_, k2, _⟩ := soundE (g := g) (n + 1) h a e q2
      have plain : swapsWith e (some (.Name x px)) pos.line X.env = pure false → PS X (.Assign [.Name x px] e pos) (TSf X.K g (setS i (evE cl a))) := fun hs =>
        psI (ps_set (by rw [h.eN]; exact h.nd) (by rw [h.eN]; exact q1'.1) h1 k2 hs h2) fun D σ H q => ts_set q
      rcases q3 with (q3 | q3) | q3
      · refine plain ?_
        rw [swB_ok h.eS hk (.inl q3)]
        cases e <;> first | rfl | cases q3
      · by_cases hc : ∃ el gs s p, e = .ListComp el gs s p
        · refine plain ?_
          rw [swB_ok h.eS hk (.inr hc)]
          cases hq : swB sc e x px with
          | false => rfl
          | true => rw [hq] at q3; cases q3
        · have nc : notComp e = true := by
            obtain ⟨ho, _⟩ : okH e = true ∧ True := ⟨(soundE (g := g) (n + 1) h a e q2).1, trivial⟩
            cases e with
            | ListComp el gs s p => exact absurd ⟨_, _, _, _, rfl⟩ hc
            | SetComp el gs s p => exact absurd q2 (by unfold chkE; cases a <;> simp)
            | DictComp el v gs s p => exact absurd q2 (by unfold chkE; cases a <;> simp)
            | _ => rfl
          refine plain ?_
          rw [swB_ok h.eS hk (.inl nc)]
          cases e <;> first | rfl | cases nc
      · split at q3
        · cases hq : swB sc _ x px with
          | true => exact soundSetC h hk q1'.1 hq q2
          | false =>
            refine plain ?_
            rw [swB_ok h.eS hk (.inr ⟨_, _, _, _, rfl⟩), hq]
        · cases q3
    · cases q
  | .par is es, t, q => by
    unfold chkS at q
    split at q
    · rw [Bool.and_eq_true] at q
      exact soundPar h hk q.1 (soundL (fun a e q => ⟨(soundE (g := g) n h a e q).1, (soundE (g := g) n h a e q).2.1⟩) q.2).1
    · cases q
  | .setIx i a ix, t, q => by
    unfold chkS at q
    split at q
    · simp only [Bool.and_eq_true] at q
      obtain ⟨⟨q1, q2⟩, q3⟩ := q
      exact psI (ps_asg (soundE n h a _ q3).2.1 (pg_sub (h.var q1) (soundE n h ix _ q2).2.1 set_list (assign_sub (soundE (g := g) n h ix _ q2).1)) sw_sub ss_sub rfl) fun D σ H q => ts_setIx q
    · cases q
  | .bset i m a, t, q => by
    unfold chkS at q
    split at q
    · simp only [Bool.and_eq_true, decide_eq_true_eq] at q
      obtain ⟨⟨q1, rfl⟩, q3⟩ := q
      exact psI (ps_asg (soundE n h a _ q3).2.1 (pg_sub (h.var q1) de_int set_list) sw_sub ss_sub rfl) fun D σ H q => ts_bagSet q
    · cases q
  | .cond c a b, t, q => by
    unfold chkS at q
    split at q
    · simp only [Bool.and_eq_true] at q
      obtain ⟨⟨⟨q0, q1⟩, q2⟩, q3⟩ := q
      exact psI (ps_if ((soundE n h c _ q1).2.2 q0) (soundSs h hk hp a _ q2) (soundSs h hk hp b _ q3)) fun D σ H q => ts_if q
    · cases q
  | .loop it tg b, t, q => by
    unfold chkS at q
    split at q
    · simp only [Bool.and_eq_true] at q
      obtain ⟨⟨q1, q2⟩, q3⟩ := q
      obtain ⟨i1, i2⟩ := soundI (g := g) h (fun a e q => ⟨(soundE (g := g) n h a e q).1, (soundE (g := g) n h a e q).2.1⟩) q1
      exact psI (ps_for hp h.cm i2 (soundTg h q2) (soundSs h hk hp b _ q3) (no_fold i1 _)) fun D σ H q => ts_for q
    · cases q
  | .ret a, t, q => by
    unfold chkS at q
    split at q
    · exact psI (ps_ret (soundE n h a _ q).2.1) fun D σ H q => ts_ret q
    · cases q
  | .ret0, t, q => by
    unfold chkS at q
    split at q
    · exact psI ps_retN fun D σ H q => ts_retN q
    · cases q
theorem soundSs (h : XOk cl tb N sc sc X) (hk : sc.kind = .function) (hp : PassesOwn (model X.prog X.w) X.A X.env X.xe) : ∀ (s : Sms) (t : List Stmt), chkSs tb N n sc s t = true → PSs X t (TSf X.K g (evSs cl s))
  | .nil, [], _ => pssI pss_nil fun D σ H q => ts_skip q
  | .cons s r, t :: ts, q => by
    have q : (chkS tb N n sc s t && chkSs tb N n sc r ts) = true := by rw [chkSs] at q; exact q
    rw [Bool.and_eq_true] at q
    exact pssI (pss_cons (soundS h hk hp s t q.1) (soundSs h hk hp r ts q.2)) fun D σ H q => ts_seq q
  | .nil, _ :: _, q => by simp [chkSs] at q
  | .cons _ _, [], q => by simp [chkSs] at q
end
end
end Mz

set_option Elab.async false
set_option linter.all false
set_option maxRecDepth 100000
set_option maxHeartbeats 4000000
set_option autoImplicit false
/-! Mz25: a table of defs. -/
namespace Mz
open PySem PySem.Spec L2
open PyProof.Rows hiding St

structure Df where
  nm : Str
  qual : Str
  ps : List Str
  kb : List Nat
  N : List Str
  body : Sms
def run (tab : List Df) : Nat → Cl
  | 0 => fun _ _ _ => none
  | n + 1 => fun x as b => match tab.find? (fun d => decide (d.nm = x)) with
    | some d => runD d.N.length (evSs (run tab n) d.body) as b
    | none => none
def tbOf (tab : List Df) (cons : List (Str × Int)) : Tb := ⟨tab.map fun d => (d.nm, d.ps, d.kb), cons⟩
/-- the def's text is told by its term -/
def dfB (tab : List Df) (cons : List (Str × Int)) (d : Df) (st : Stmt) : Bool :=
  chkSs (tbOf tab cons) d.N 60 (defScope st) d.body (defBody st) && decide ((defScope st).kind = .function) && decide ((defScope st).isCoroutine = false) && decide ((defScope st).isGenerator = false) && decide (d.N.Nodup) && decide (d.N.take d.ps.length = d.ps) &&
  (d.ps.all fun x => decide ((defScope st).names.lookup x = some .local) || decide ((defScope st).names.lookup x = some .cell)) && ((defScope st).names.all fun y => decide (y.2 ≠ .free))
def BdOk (d : Df) (st : Stmt) : Prop := ∀ m ∈ d.kb, ∀ (kV doc pm : Value) (an : Option Addr) (cdv ct : Value) (us ws : List Value), us.length + ws.length = d.ps.length → us.length = m →
  bindArgs (PySem.W.fnOf d.nm d.qual (defArgs st) (defBody st) (defScope st) .none kV doc pm an cdv ct) ⟨us, (d.ps.drop m).zip ws⟩ = pure (d.ps.zip (us ++ ws))
structure DfOk (K : PySem.W.Frag) (mg : Str → Option Value) (tab : List Df) (cons : List (Str × Int)) (d : Df) (st : Stmt) (f : Addr) (fd : FuncData) : Prop where
  fn : Fun K d.nm d.qual st f fd
  mg : mg d.nm = some (.ref f)
  ok : dfB tab cons d st = true
  bd : BdOk d st
structure GlOk (K : PySem.W.Frag) (mg : Str → Option Value) (base : Heap) (tab : List Df) (cons : List (Str × Int)) : Prop where
  sys : ∃ o, base.get? sysModules = some o
  bn : ∀ x ∈ bN, mg x = none
  con : ∀ p ∈ cons, ∃ t, mg p.1 = some (.int p.2 t)
  df : ∀ d ∈ tab, ∃ st f fd, DfOk K mg tab cons d st f fd
section
variable {P : Program} {w : World} {K : PySem.W.Frag} {mg : Str → Option Value} {base : Heap} {tab : List Df} {cons : List (Str × Int)}
theorem scope_of {d : Df} {st : Stmt} (h : dfB tab cons d st = true) : FnScope d.N d.ps (defScope st) ∧ chkSs (tbOf tab cons) d.N 60 (defScope st) d.body (defBody st) = true := by
  unfold dfB at h
  simp only [Bool.and_eq_true, List.all_eq_true, Bool.or_eq_true, decide_eq_true_eq] at h
  obtain ⟨⟨⟨⟨⟨⟨⟨h1, h2⟩, h3⟩, h4⟩, h5⟩, h6⟩, h7⟩, h8⟩ := h
  exact ⟨⟨h2, h3, h4, h5, h6, h7, h8⟩, h1⟩
theorem find_def {x : Str} {ps : List Str} {kb : List Nat} (h : (tbOf tab cons).defs.lookup x = some (ps, kb)) : ∃ d ∈ tab, d.nm = x ∧ d.ps = ps ∧ d.kb = kb ∧ tab.find? (fun d => decide (d.nm = x)) = some d := by
  unfold tbOf at h
  induction tab with
  | nil => cases h
  | cons d r ih =>
    rw [List.map_cons, List.lookup_cons] at h
    by_cases e : x = d.nm
    · rw [show (x == d.nm) = true from beq_iff_eq.mpr e] at h
      cases h
      exact ⟨d, List.mem_cons_self, e.symm, rfl, rfl, by rw [List.find?_cons, show decide (d.nm = x) = true from decide_eq_true e.symm]⟩
    · rw [show (x == d.nm) = false from beq_eq_false_iff_ne.mpr e] at h
      obtain ⟨d', m, h1, h2, h3, h4⟩ := ih h
      exact ⟨d', List.mem_cons_of_mem _ m, h1, h2, h3, by rw [List.find?_cons, show decide (d.nm = x) = false from decide_eq_false (fun q => e q.symm)]; exact h4⟩
/-- the context of a body -/
theorem xok_body {n : Nat} {st : Stmt} {f : Addr} {qual : Str} {N : List Str} {cdv : Value} {A : Around} {os : List Env} {t : Shared} {H : Hp} (G : GlOk K mg base tab cons) (nd : N.Nodup) {cl : Cl}
    (hr : Room n (A.deeper (envOfC qual (defScope st) t.heap.objs.size f cdv))) (gd : A.guards = some [])
    (ih : ∀ x d, tab.find? (fun d => decide (d.nm = x)) = some d → ∀ st f fd, DfOk K mg tab cons d st f fd → FnG P w K mg base n f fd d.ps (spU K d.ps.length (cl x))) :
    XOk cl (tbOf tab cons) N (defScope st) (defScope st) (cxOf CX0 P w K mg base N qual (defScope st) f cdv A os t H E0).nox where
  eN := rfl
  nd := nd
  eS := rfl
  cm := rfl
  rep := ⟨gd, by have := hr.un; show (A.deeper _).units + 65 < cLine; omega, G.sys, rfl⟩
  loc := fun x q => ⟨q, .inl rfl⟩
  mg := G.bn
  con := G.con
  cal := fun x ps kb hl => by
    obtain ⟨d, hd, rfl, rfl, rfl, hf⟩ := find_def hl
    obtain ⟨st', f', fd', D⟩ := G.df d hd
    refine ⟨n, f', fd', ih _ d hf st' f' fd' D, hr, D.mg, D.fn.kp, fun m hm s us ws e1 e2 => ?_⟩
    obtain ⟨oc, od, kV, doc, pm, an, cdv', ct, osl, rfl, _⟩ := D.fn.ex
    exact .of_eq (D.bd m hm kV doc pm an cdv' ct us ws e1 e2)
theorem all_fn (G : GlOk K mg base tab cons) : ∀ (n : Nat) (x : Str) (d : Df), tab.find? (fun d => decide (d.nm = x)) = some d → ∀ (st : Stmt) (f : Addr) (fd : FuncData), DfOk K mg tab cons d st f fd → FnG P w K mg base n f fd d.ps (spU K d.ps.length (run tab n x))
  | 0, x, d, hx, st, f, fd, D => by
    have no : ∀ vs H Q, ¬ spU K d.ps.length (run tab 0 x) vs H Q := fun vs H Q h => by
      obtain ⟨g, S, as, b, r, b', _, _, _, _, h, _⟩ := h
      cases h
    exact ⟨fun vs H Q h => (no vs H Q h).elim, fun A os t H ar us vs Q _ _ _ _ _ h => (no vs H Q h).elim⟩
  | n + 1, x, d, hx, st, f, fd, D => by
    obtain ⟨S, ck⟩ := scope_of D.ok
    have er : run tab (n + 1) x = runD d.N.length (evSs (run tab n) d.body) := by
      funext as b
      show (match tab.find? (fun d => decide (d.nm = x)) with | some d => runD d.N.length (evSs (run tab n) d.body) as b | none => none) = _
      rw [hx]
    rw [er]
    refine fn_body D.fn S fun cdv A os t H g hr gd => ?_
    exact soundSs (xok_body G S.nd hr gd (all_fn G n)) S.kind PassesOwn.never _ _ ck
end
end Mz

set_option Elab.async false
set_option linter.all false
set_option maxRecDepth 100000
set_option maxHeartbeats 4000000
set_option autoImplicit false
/-! Mz26: the law's call. -/
namespace Mz
open PySem PySem.Spec L2
open PyProof.Rows hiding St

section
variable {P : Program} {w : World} {K : PySem.W.Frag} {mg mb : Str → Option Value} {n : Nat} {fa a : Addr} {fd : FuncData} {x : Str} {sp : SpG} {t : Shared} {vs : List Value} {ns : List Int}
/-- the call from a heap in which the script alone may be tracked -/
theorem law_at {H : Hp} (hin : K.In t.heap) (hglob : t.heap.Ns mainGlobals mg) (hblt : t.heap.Ns builtinsNs mb) (hboot : ∀ y : Str, y ≠ "__name__" → mb y = bootBuiltins y) (hlim : t.heap.NoLimit) (hsys : ∃ m, t.heap.Ns sysModules m) (hgen : t.gens = #[])
    (ha : t.heap.get? a = some { cls := .type "list", data := .seq vs.toArray }) (hr : Room n callerA)
    (F : ∀ base : Heap, K.In base → base.Ns mainGlobals mg → (∃ o, base.get? sysModules = some o) → FnG P w K mg base n fa fd [x] sp) (hbind : ∀ (s : Shared) (u : Value), BindsTo s fd ⟨[u], []⟩ [(x, u)])
    (only : Only H) (hok : HOk P w H t.heap) (at' : ∀ b, H b ≠ none → b = a) (away : H a ≠ none → K.lookup a = none) (hsp : sp [.ref a] H fun v _ => v = .bl true) :
    codeAny (model P w) callerA (.call (.ref fa) ⟨[.ref a], []⟩) (fun r s' => r = .ok (.ret (.bool true)) ∧ OldK t.heap s'.heap ∧ s'.os = t.os ∧ AllBare s'.gens) t := by
  -- a dict is not the script
  have dictFree : ∀ {b : Addr} {o : Obj} {es : Array DictEntry} {m : Nat}, t.heap.get? b = some o → o.data = .dict es m → H b = none := by
    intro b o es m e d
    cases k : H b with
    | none => rfl
    | some u =>
      have hb := at' b (by rw [k]; exact fun z => nomatch z)
      rw [hb, ha] at e
      cases e
      cases (show Data.seq vs.toArray _ = Data.dict es m from d)
  have move : ∀ {b : Addr} {m : Str → Option Value}, t.heap.Ns b m → (hidT t.heap H).Ns b m := by
    rintro b m ⟨o, es, ep, e, d, r⟩
    exact ⟨o, es, ep, hidT_get e (dictFree e d), d, r⟩
  have kin : K.In (hidT t.heap H) := by
    intro b o e
    refine hidT_get (hin b o e) ?_
    cases k : H b with
    | none => rfl
    | some u =>
      have hne : H b ≠ none := by rw [k]; exact fun z => nomatch z
      have hb := at' b hne
      subst hb
      rw [away hne] at e
      cases e
  have sys : ∃ o, (hidT t.heap H).get? sysModules = some o := by
    obtain ⟨m, hm⟩ := hsys
    obtain ⟨o, _, _, e, _⟩ := move hm
    exact ⟨o, e⟩
  have env : Env0 P w K mg (hidT t.heap H) callerA [] t H := by
    refine ⟨rfl, ⟨kin, move hglob, ⟨mb, move hblt, hboot⟩, ?_⟩, fun b o e => of_hidT e, Nat.le_of_eq (hidT_size _ _), trivial, (fun b m => by cases m), hok, .of_eq hgen⟩
    obtain ⟨mc, k1, k2⟩ := hlim
    exact ⟨mc, move k1, k2⟩
  refine codeAny_mono ((F _ kin (move hglob) sys).run callerA [] t H ⟨[.ref a], []⟩ [.ref a] [.ref a] _ hr rfl env (hbind t (.ref a)) (.cons rfl .nil) hsp) fun r s' q => ?_
  cases r with
  | error e => exact q.elim
  | ok fl =>
    cases fl with
    | ret u =>
      obtain ⟨v, H', e1, e2, un, hok', rv, hv⟩ := q
      have hv : v = .bl true := hv
      rw [hv] at rv
      rw [show u = Value.bool true from rv]
      refine ⟨rfl, OldK.of_keep fun b o e => ?_, e1, e2⟩
      cases k : H b with
      | none => exact un.keep b o e k (fun m => by cases m) (fun m => by cases m)
      | some u =>
        rcases only b with z | ⟨ob, xs, z⟩
        · rw [k] at z; cases z
        · obtain ⟨k1, _⟩ := hok b _ z
          obtain ⟨k2, _⟩ := hok' b _ (un.frzs b ob _ z)
          rw [e] at k1
          cases k1
          exact k2
    | _ => exact False.elim q
theorem law_run (hin : K.In t.heap) (hglob : t.heap.Ns mainGlobals mg) (hblt : t.heap.Ns builtinsNs mb) (hboot : ∀ y : Str, y ≠ "__name__" → mb y = bootBuiltins y) (hlim : t.heap.NoLimit) (hsys : ∃ m, t.heap.Ns sysModules m) (hgen : t.gens = #[])
    (ha : t.heap.get? a = some { cls := .type "list", data := .seq vs.toArray }) (hi : IntsAre vs ns) (hl : ns.length ≤ sizeLine) (hr : Room n callerA)
    (F : ∀ base : Heap, K.In base → base.Ns mainGlobals mg → (∃ o, base.get? sysModules = some o) → FnG P w K mg base n fa fd [x] sp) (hbind : ∀ (s : Shared) (u : Value), BindsTo s fd ⟨[u], []⟩ [(x, u)])
    (hsp : ∀ H : Hp, Only H → SqL K H a (ns.map V.int) → sp [.ref a] H fun v _ => v = .bl true) :
    codeAny (model P w) callerA (.call (.ref fa) ⟨[.ref a], []⟩) (fun r s' => r = .ok (.ret (.bool true)) ∧ OldK t.heap s'.heap ∧ s'.os = t.os ∧ AllBare s'.gens) t := by
  have rv := vals_ints hi
  cases hk : K.lookup a with
  | some o =>
    have e := hin a o hk
    rw [ha] at e
    cases e
    have none0 : ∀ b u, (fun _ : Addr => (none : Option HO)) b = some u → False := fun b u z => by cases z
    refine law_at (H := fun _ => none) hin hglob hblt hboot hlim hsys hgen ha hr F hbind (fun _ => .inl rfl) (fun b u z => (none0 b u z).elim) (fun b z => absurd rfl z) (fun z => absurd rfl z) (hsp _ (fun _ => .inl rfl) ?_)
    exact .inr ⟨_, vs.toArray, _, hk, rfl, rfl, rfl, by rw [List.size_toArray, hi.length]; exact hl, by simpa using rv⟩
  | none =>
    let ob : Obj := { cls := .type "list", data := .seq vs.toArray }
    let Hs : Hp := fun b => if b = a then some (.frz ob (.lst (ns.map V.int))) else none
    have yes : Hs a = some (.frz ob (.lst (ns.map V.int))) := if_pos rfl
    have no : ∀ b, b ≠ a → Hs b = none := fun b h => if_neg h
    have oo : Only Hs := fun b => by
      by_cases h : b = a
      · rw [h]; exact .inr ⟨_, _, yes⟩
      · exact .inl (no b h)
    refine law_at (H := Hs) hin hglob hblt hboot hlim hsys hgen ha hr F hbind oo (fun b u z => ?_) (fun b z => ?_) (fun _ => hk) (hsp Hs oo (.inl (.inr ⟨ob, yes⟩)))
    · by_cases h : b = a
      · subst h
        rw [yes] at z
        cases z
        exact ⟨ha, by rw [List.length_map]; exact hl, vs, _, rv, ha⟩
      · rw [no b h] at z; cases z
    · by_cases h : b = a
      · exact h
      · exact absurd (no b h) z
end
theorem walk_law {l : PySem.W.OpenLaw} {m n : Nat} {q : Program} {loose : List Str} {XP : (Str → Option Value) → Heap → Prop} {YP : World → Heap → Prop} {d : DefRec} {K : Params → PySem.W.Frag} {x : Str} {sp : World → SpG}
    (hm : l.most = some m) (hm2 : m ≤ sizeLine) (hdf : d.params.defaults = []) (hr : Room n callerA) (hq : importsNone q = true) (hY : ∀ (w : World) (h : Heap), YP w h → (K w.params).In h)
    (F : ∀ (w : World) (mg : Str → Option Value) (fa : Addr) (h : Heap), (K w.params).In h → h.Ns mainGlobals mg → mg d.name = some (.ref fa) →
      ∃ fd : FuncData, (∀ (s : Shared) (u : Value), BindsTo s fd ⟨[u], []⟩ [(x, u)]) ∧ ∀ base : Heap, (K w.params).In base → base.Ns mainGlobals mg → (∃ o, base.get? sysModules = some o) → FnG l.prog w (K w.params) mg base n fa fd [x] (sp w))
    (hsp : ∀ (w : World) (H : Hp) (a : Addr) (ns : List Int), ns.length ≤ m → Only H → SqL (K w.params) H a (ns.map V.int) → sp w [.ref a] H fun v _ => v = .bl true) :
    PySem.W.WalkO q loose XP YP l.row.toRowW d [] (fun f vs => PySem.call f vs) := by
  refine Att.attach_call hm hdf fun w s₀ s₁ mg mb fa o pm cd doc a vs ns G Y ho hd hcd hmg hobj hints hlen hg => ?_
  have hin := hY w _ Y
  obtain ⟨fd, hb, hF⟩ := F w mg fa _ hin G.T.g hmg
  exact law_run hin G.T.g G.T.b G.T.builtins G.T.nolimit (let ⟨m, h, _⟩ := (G.T.seer hq).mods; ⟨m, h⟩) hg hobj hints (Nat.le_trans hlen hm2) hr hF hb fun H hO hS => hsp w H a ns hlen hO hS
end Mz

set_option Elab.async false
set_option linter.all false
set_option maxRecDepth 100000
set_option maxHeartbeats 4000000
set_option autoImplicit false
/-! Mz27: the bag's making, and the law's own def. -/
namespace Mz
open PySem PySem.Spec L2
open PyProof.Rows hiding St

def itC (items : List PyData) : MI := fun z => some (items, [], z)
theorem cut63 (ns : List Int) : cutV (ns.map V.int) none (some 63) = (ns.take 63).map V.int := by
  unfold cutV HT.sIx
  simp only [List.length_map]
  have h0 : ¬ (63 : Int) < 0 := by decide
  simp [h0, List.map_take]
section
variable {cl : Cl} {tb : Tb} {N : List Str} {sc : Scope} {X : Cx} {g : Gb}
def Src0 (K : PySem.W.Frag) (ns : List Int) (σ : St) (H : Hp) : Prop := ∃ a, σ[0]? = some (some (V.ref a)) ∧ SqL K H a (ns.map V.int)
theorem pi_script (h : XOk cl tb N sc sc X) {tg : Expr} {x : Str} {p p1 p2 p3 : Pos} {j : Nat} (hv : visB N sc 0 x = true) (ns : List Int) :
    PI X tg (.Subscript (.Name x p) (.Slice none (some (.Constant (.int 63) j p1)) none p2) p3) (fun σ H R => Src0 X.K ns σ H ∧ WIf X.K g (itC ((ns.take 63).map PyData.int)) σ H R) := by
  unfold visB at hv
  simp only [Bool.and_eq_true, Bool.or_eq_true, decide_eq_true_eq] at hv
  obtain ⟨⟨q1, q2⟩, q3, q4⟩ := hv
  have pv : PE X (.Name x p) (tVar 0) := pe_var (by rw [h.eN]; exact q1) (by
    show _ ∨ _ ∨ _
    rw [h.eS]
    rcases q2 with (q | q) | q
    · exact .inl q
    · exact .inr (.inl q)
    · exact .inr (.inr q)) q3 q4
  refine piI (pi_list (pe_slice sl_list pv po_none (po_some pe_int))) fun σ H R q => ?_
  obtain ⟨⟨a, h1, h2⟩, S, z, items, lks, z', e, hit, k⟩ := q
  cases hit
  refine ⟨.ref a, h1, 63, rfl, a, _, rfl, h2, fun t ht => ⟨t, rfl, ⟨_, SqL.of upd_same⟩, k _ _ ?_⟩⟩
  rw [cut63]
  have x : Ext H (upd H t (.lst ((ns.take 63).map V.int))) := Ext.upd ht
  have nt : ¬ (S t ∨ Ow g σ z.r t) := fun q => e.avTrk t q ht
  exact ⟨x.kp, fun _ q => q, e.mv (fun a q => x.kp.tr (O := fun _ => False) a (e.trk a q)) (fun a q => .inl q) x, Lk.refl, _, src_lst (r := .lst t ((ns.take 63).map V.int)) rfl, fun q => nt (.inl q), fun q => nt (.inr q), upd_same, rpa_cells _⟩
/-- the first line of the bag's making -/
def bag0B (tb : Tb) (N : List Str) (sc : Scope) (t : Tg) (el : Ex) (own : List (Str × Nat)) (s : Stmt) : Bool := match s with
  | .Assign [.Name y py] (.ListComp x [⟨tg, .Subscript (.Name z _) (.Slice none (some (.Constant (.int j) _ _)) none _) _, [], 0⟩] scope pos) _ =>
    decide (j = 63) && visB N sc 0 z && decide (N[1]? = some y) && swB sc (.ListComp x [⟨tg, .Subscript (.Name z pos) (.Slice none none none pos) pos, [], 0⟩] scope pos) y py && blkC N sc scope own && chkTg N scope t tg && chkE tb N 20 (relS scope sc) scope el x && (t.slots.all fun j => decide (j ∈ own.map (·.2)))
  | _ => false
theorem ps_bag0 (h : XOk cl tb N sc sc X) (hk : sc.kind = .function) {t : Tg} {el : Ex} {own : List (Str × Nat)} {s : Stmt} (q : bag0B tb N sc t el own s = true) (ns : List Int) :
    PS X s (fun D σ H => Src0 X.K ns σ H ∧ TSf X.K g (setS 1 (compE (itC ((ns.take 63).map PyData.int)) t (cE (.bool true)) (evE cl el) (own.map (·.2)))) D σ H) := by
  unfold bag0B at q
  split at q
  · rename_i y py x tg z pz j jj pj psl psu scope pos spos
    simp only [Bool.and_eq_true, List.all_eq_true, decide_eq_true_eq] at q
    obtain ⟨⟨⟨⟨⟨⟨⟨rfl, q1⟩, q2⟩, q3⟩, q4⟩, q5⟩, q6⟩, q7⟩ := q
    have hw := swB_ok (e := .ListComp x [⟨tg, .Subscript (.Name z pz) (.Slice none (some (.Constant (.int 63) jj pj)) none psl) psu, [], 0⟩] scope pos) (y := y) (py := py) (l := spos.line) h.eS hk (.inr ⟨_, _, _, _, rfl⟩)
    have q3' : swB sc (.ListComp x [⟨tg, .Subscript (.Name z pz) (.Slice none (some (.Constant (.int 63) jj pj)) none psl) psu, [], 0⟩] scope pos) y py = true := q3
    rw [q3'] at hw
    have hyl : sc.names.lookup y = some .local := by
      unfold swB at q3'
      simp only [Bool.and_eq_true, beq_iff_eq] at q3'
      exact q3'.1.1
    have blk := fun (s : Shared) (H : Hp) (C : Addr) (l : List (Str × Addr)) (fp : List Addr) => h.block scope s H C l fp
    refine psI (ps_setLc h.cm (by rw [h.eN]; exact h.nd) (by rw [h.eN]; exact q2) (by rw [h.eS]; exact hyl) hw (pi_script (g := g) h q1 ns) (blkOk_by (by rw [h.eN, h.eS]; exact q4)) (fun s H C l fp => soundTg (blk s H C l fp) q5) (g := TGf X.K g t) (tt := TTf X.K g (cE (.bool true))) (te := TEf X.K g (evE cl el)) (fun s H C l fp => dts_nil)
      (fun s H C l fp => (soundE 20 (g := g) (blk s H C l fp) _ _ q6).2.1) (by intro _; rfl)) fun D σ H k => ?_
    exact ⟨k.1, lc_law q7 (ts_set k.2)⟩
  · cases q
end
/-- the bag from the script -/
def bagM (cl : Cl) (t : Tg) (el : Ex) (own : List (Str × Nat)) (rest : Sms) (ns : List Int) : MS := seqS (setS 1 (compE (itC ((ns.take 63).map PyData.int)) t (cE (.bool true)) (evE cl el) (own.map (·.2)))) (evSs cl rest)
def bagEv (cl : Cl) (m : Nat) (t : Tg) (el : Ex) (own : List (Str × Nat)) (rest : Sms) (ns : List Int) : Option (R × Bg) := (bagM cl t el own rest ns (init m [] ⟨[], 0, 0⟩)).bind endF
def Bg.d (β : Bg) : R := .nw [.list (β.cells.map PyData.int), .int β.cur, .int β.mix]
def spBag (K : PySem.W.Frag) (ev : List Int → Option (R × Bg)) : SpG := fun vs H Q => ∃ a ns β b', vs = [.ref a] ∧ SqL K H a (ns.map V.int) ∧ ev ns = some (Bg.d β, b') ∧ ∀ b c H', BagAt H' b c β → Q (.ref b) H'
theorem er_none {K : PySem.W.Frag} {H : Hp} {N : List Str} {a : Addr} (hN : 1 ≤ N.length) : ER K none (fun _ => False) (L2.start N [V.ref a]) H (init N.length [] ⟨[], 0, 0⟩) := by
  refine ⟨?_, fun _ h => h.elim, (fun _ _ h => by cases h), fun i d hi => ?_, fun i xs o => (init_own o).elim, fun i j xs ys a o => (init_own o).elim, fun i hi => ?_⟩
  · show (([] : List A).map slot0 ++ List.replicate (N.length - ([] : List A).length) Sl.no).length = ([V.ref a].map some ++ List.replicate (N.length - [V.ref a].length) none).length
    simp
    omega
  · obtain ⟨a, h1, _⟩ := init_get hi (by intro h; cases h)
    cases h1
  · obtain ⟨a, h1, _⟩ := init_get hi (by intro h; cases h)
    cases h1
section
variable {P : Program} {w : World} {K : PySem.W.Frag} {mg : Str → Option Value} {base : Heap} {tab : List Df} {cons : List (Str × Int)} {n : Nat}
def sc0B (N ps : List Str) (st : Stmt) : Bool := decide ((defScope st).kind = .function) && decide ((defScope st).isCoroutine = false) && decide ((defScope st).isGenerator = false) && decide (N.Nodup) && decide (N.take ps.length = ps) &&
  (ps.all fun x => decide ((defScope st).names.lookup x = some .local) || decide ((defScope st).names.lookup x = some .cell)) && ((defScope st).names.all fun y => decide (y.2 ≠ .free))
theorem sc0_of {N ps : List Str} {st : Stmt} (h : sc0B N ps st = true) : FnScope N ps (defScope st) := by
  unfold sc0B at h
  simp only [Bool.and_eq_true, List.all_eq_true, Bool.or_eq_true, decide_eq_true_eq] at h
  obtain ⟨⟨⟨⟨⟨⟨h2, h3⟩, h4⟩, h5⟩, h6⟩, h7⟩, h8⟩ := h
  exact ⟨h2, h3, h4, h5, h6, h7, h8⟩
theorem bag_fn (G : GlOk K mg base tab cons) {qual x : Str} {st : Stmt} {f : Addr} {fd : FuncData} {N ps : List Str} {t : Tg} {el : Ex} {own : List (Str × Nat)} {rest : Sms} {s0 : Stmt} {sr : List Stmt} (F : Fun K x qual st f fd) (hps : ps.length = 1) (hS : sc0B N ps st = true)
    (hb : defBody st = s0 :: sr) (h0 : bag0B (tbOf tab cons) N (defScope st) t el own s0 = true) (hr : chkSs (tbOf tab cons) N 60 (defScope st) rest sr = true) :
    FnG P w K mg base (n + 1) f fd ps (spBag K (bagEv (run tab n) N.length t el own rest)) := by
  have S := sc0_of hS
  have hN : 1 ≤ N.length := by
    have := congrArg List.length S.pre
    rw [List.length_take] at this
    omega
  refine fn_g F S (fun vs H Q h => ?_) fun cdv A os tt H vs Q hrm gd h => ?_
  · obtain ⟨a, ns, β, b', rfl, _⟩ := h
    exact hps.symm
  · obtain ⟨a, ns, β, b', rfl, h1, h2, q⟩ := h
    have X := xok_body (P := P) (w := w) (os := os) (H := H) (cl := run tab n) G S.nd hrm gd (fun x d hx st f fd D => all_fn G n x d hx st f fd D)
    rw [hb]
    refine ⟨_, pss_cons (ps_bag0 (g := none) X S.kind h0 ns) (soundSs (g := none) X S.kind PassesOwn.never rest sr hr), ⟨a, start_get rfl, h1⟩, ?_⟩
    obtain ⟨f1, e1, e2⟩ := bnd h2
    have ts : TSf K none (bagM (run tab n) t el own rest ns) { nx := fun _ H' => Q .non H', rt := Q } (L2.start N [V.ref a]) H := by
      refine ⟨_, _, f1, er_none hN, e1, ?_⟩
      cases f1 with
      | rt r b =>
        cases e2
        intro v H' p
        obtain ⟨b, ws, rfl, _, _, k1, k2⟩ := p.rr
        rw [RpA] at k2
        obtain ⟨x1, w1, rfl, r1, k2⟩ := k2
        rw [RpA] at k2
        obtain ⟨x2, w2, rfl, r2, k2⟩ := k2
        rw [RpA] at k2
        obtain ⟨x3, w3, rfl, r3, k2⟩ := k2
        rw [RpA] at k2
        subst k2
        have r1' : Rp K _ H' (.list (β.cells.map PyData.int)) x1 := r1
        have r2' : Rp K _ H' (.int β.cur) x2 := r2
        have r3' : Rp K _ H' (.int β.mix) x3 := r3
        rw [Rp] at r1'
        rw [Rp] at r2'
        rw [Rp] at r3'
        obtain ⟨c, us, rfl, n1, k3, k4⟩ := r1'
        subst r2' r3'
        have hus : us = β.cells.map V.int := ints_of k4
        refine q b c H' ⟨fun e => n1 (.inr e.symm), k1, ?_⟩
        rw [k3, hus]
      | nx z => cases e2
      | bk z => cases e2
      | ct z => cases e2
    exact ts_seq ts
where
  ints_of {T : Av} {H' : Hp} : ∀ {l : List Int} {us : List V}, RpA K T H' (l.map PyData.int) us → us = l.map V.int
    | [], us, h => by rw [List.map_nil, RpA] at h; exact h
    | a :: r, us, h => by
      rw [List.map_cons, RpA] at h
      obtain ⟨x, w, rfl, h1, h2⟩ := h
      rw [Rp] at h1
      rw [h1, ints_of h2]
      rfl
/-- what the law's text does behind its first line -/
def lawEv (cl : Cl) (m : Nat) (rest : Sms) (β : Bg) : Option (R × Bg) := (evSs cl rest ⟨(List.replicate m Sl.no).set 1 .bag, β⟩).bind endF
def law0B (tb : Tb) (N : List Str) (sc : Scope) (s : Stmt) : Bool := match s with
  | .Assign [.Name y _] (.Call (.Name f _) [.Name z _] [] _) _ => decide (f = "_law_bag") && glB sc f && visB N sc 0 z && locB N sc 1 y
  | _ => false
def spLaw (K : PySem.W.Frag) (ev : List Int → Option (R × Bg)) (lw : Bg → Option (R × Bg)) : SpG := fun vs H Q => ∃ a ns β b' b'', vs = [.ref a] ∧ SqL K H a (ns.map V.int) ∧ ev ns = some (Bg.d β, b') ∧ lw β = some (.d (.bool true), b'') ∧ ∀ H', Q (.bl true) H'
theorem law_fn (G : GlOk K mg base tab cons) {qual x : Str} {st : Stmt} {f fb : Addr} {fd fdb : FuncData} {N ps psb : List Str} {rest : Sms} {s0 : Stmt} {sr : List Stmt} {ev : List Int → Option (R × Bg)} (F : Fun K x qual st f fd) (hps : ps.length = 1) (hS : sc0B N ps st = true) (h2N : 2 ≤ N.length)
    (hb : defBody st = s0 :: sr) (h0 : law0B (tbOf tab cons) N (defScope st) s0 = true) (hr : chkSs (tbOf tab cons) N 60 (defScope st) rest sr = true)
    (FB : FnG P w K mg base n fb fdb psb (spBag K ev)) (hm : mg "_law_bag" = some (.ref fb)) (hk : PySem.W.keepIn K (.ref fb) = true) (hbb : ∀ (s : Shared) (u : Value), BindsTo s fdb ⟨[u], []⟩ (psb.zip [u])) (hpb : psb.length = 1) :
    FnG P w K mg base (n + 1) f fd ps (spLaw K ev (lawEv (run tab n) N.length rest)) := by
  have S := sc0_of hS
  refine fn_g F S (fun vs H Q h => ?_) fun cdv A os tt H vs Q hrm gd h => ?_
  · obtain ⟨a, ns, β, b', b'', rfl, _⟩ := h
    exact hps.symm
  · obtain ⟨a, ns, β, b', b'', rfl, h1, h2, h3, q⟩ := h
    have X := xok_body (P := P) (w := w) (os := os) (H := H) (cl := run tab n) G S.nd hrm gd (fun x d hx st f fd D => all_fn G n x d hx st f fd D)
    rw [hb]
    unfold law0B at h0
    split at h0
    · rename_i y py fn pf zn pz pc spos
      simp only [Bool.and_eq_true, decide_eq_true_eq] at h0
      obtain ⟨⟨⟨rfl, g1⟩, g2⟩, g3⟩ := h0
      have g3' := g3
      unfold locB at g3'
      simp only [Bool.and_eq_true, Bool.or_eq_true, decide_eq_true_eq] at g3'
      unfold visB at g2
      simp only [Bool.and_eq_true, Bool.or_eq_true, decide_eq_true_eq] at g2
      obtain ⟨⟨v1, v2⟩, v3, v4⟩ := g2
      obtain ⟨l1, l2⟩ := X.loc y g3'.2
      have pv : PE _ (.Name zn pz) (tVar 0) := pe_var (X := (cxOf CX0 P w K mg base N qual (defScope st) f cdv A os tt H E0).nox) (by rw [X.eN]; exact v1) (by
        show _ ∨ _ ∨ _
        rw [X.eS]
        rcases v2 with (q | q) | q
        · exact .inl q
        · exact .inr (.inl q)
        · exact .inr (.inr q)) v3 v4
      have pc := pe_callG (pos := pc) (p := pf) (m := 1) (ks := []) (kws := []) FB hrm gd (X.gl g1) hm hk (fun s us ws e1 e2 => by
        match us, ws, e2, e1 with
        | [u], [], _, _ => exact hbb s u
        | [u], _ :: _, _, e => rw [hpb] at e; simp at e) (pa_cons pv pa_nil rfl) pk_nil (by decide +kernel) rfl rfl rfl rfl rfl
      have rst : PSs _ sr (fun D σ H => ∃ g, TSf K g (evSs (run tab n) rest) D σ H) := ⟨fun pins s σ H D I ⟨g, k⟩ => (soundSs (g := g) X S.kind PassesOwn.never rest sr hr).run pins s σ H D I k⟩
      refine ⟨_, pss_cons (ps_set (i := 1) (by rw [X.eN]; exact X.nd) (by rw [X.eN]; exact g3'.1) l1 pc rfl l2) rst, ?_⟩
      refine ⟨.ref a, start_get rfl, rfl, a, ns, β, b', rfl, h1, h2, fun b c H' hB => ⟨some (b, c), ?_⟩⟩
      obtain ⟨f1, e1, e2⟩ := bnd h3
      refine ⟨fun _ => False, _, f1, ?_, e1, ?_⟩
      · have gt : ∀ (i : Nat) (s : Sl), ((List.replicate N.length Sl.no).set 1 Sl.bag)[i]? = some s → s = .no ∨ (s = .bag ∧ i = 1) := fun i s e => by
          by_cases h1 : 1 = i
          · subst h1
            rw [List.getElem?_set_self (by simp; omega)] at e
            cases e
            exact .inr ⟨rfl, rfl⟩
          · rw [List.getElem?_set_ne h1, List.getElem?_replicate] at e
            split at e
            · cases e; exact .inl rfl
            · cases e
        have no : ∀ {i : Nat} {xs : List PyData}, OwnAt ((List.replicate N.length Sl.no).set 1 Sl.bag) i xs → False := fun {i xs} ⟨s, e1, e2⟩ => by
          rcases gt i s e1 with rfl | ⟨rfl, _⟩ <;> cases e2
        refine ⟨?_, fun _ h => h.elim, (fun b' c' h => by cases h; exact hB), fun i d hi => ?_, fun i xs o => (no o).elim, fun i j xs ys a o => (no o).elim, fun i hi => ?_⟩
        · show ((List.replicate N.length Sl.no).set 1 Sl.bag).length = ((L2.start N [V.ref a]).set 1 (some (V.ref b))).length
          unfold L2.start
          simp
          omega
        · rcases gt i _ hi with e | ⟨e, _⟩ <;> cases e
        · rcases gt i _ hi with e | ⟨_, e⟩
          · cases e
          · subst e
            refine ⟨b, c, rfl, List.getElem?_set_self ?_⟩
            unfold L2.start
            simp
            omega
      · cases f1 with
        | rt r b0 =>
          cases e2
          intro v H' p
          have rv : Rp K (fun a => False ∨ GbA (some (b, c)) a) H' (.bool true) v := p.rr
          rw [Rp] at rv
          rw [rv]
          exact q H'
        | nx z => cases e2
        | bk z => cases e2
        | ct z => cases e2
    · cases h0
end
end Mz

set_option Elab.async false
set_option linter.all false
set_option maxRecDepth 100000
set_option maxHeartbeats 4000000
set_option autoImplicit false
/-! Mz28: from the text's places to the law's walk. -/
namespace Mz
open PySem PySem.Spec L2
open PyProof.Rows hiding St

def AllV : Nat → (List Value → Prop) → Prop
  | 0, P => P []
  | n + 1, P => ∀ v, AllV n fun l => P (v :: l)
theorem allV : ∀ {n : Nat} {P : List Value → Prop}, AllV n P → ∀ l, l.length = n → P l
  | 0, P, h, [], _ => h
  | n + 1, P, h, v :: l, e => allV (h v) l (by simpa using e)
  | 0, _, _, _ :: _, e => by simp at e
  | _ + 1, _, _, [], e => by simp at e
def BdAll (d : Df) (st : Stmt) : List Nat → Prop
  | [] => True
  | m :: r => (m ≤ d.ps.length ∧ AllV m fun us => AllV (d.ps.length - m) fun ws => ∀ (kV doc pm : Value) (an : Option Addr) (cdv ct : Value),
      bindArgs (PySem.W.fnOf d.nm d.qual (defArgs st) (defBody st) (defScope st) .none kV doc pm an cdv ct) ⟨us, (d.ps.drop m).zip ws⟩ = pure (d.ps.zip (us ++ ws))) ∧ BdAll d st r
theorem bd_of {d : Df} {st : Stmt} : ∀ {l : List Nat}, BdAll d st l → ∀ m ∈ l, ∀ (kV doc pm : Value) (an : Option Addr) (cdv ct : Value) (us ws : List Value), us.length + ws.length = d.ps.length → us.length = m →
    bindArgs (PySem.W.fnOf d.nm d.qual (defArgs st) (defBody st) (defScope st) .none kV doc pm an cdv ct) ⟨us, (d.ps.drop m).zip ws⟩ = pure (d.ps.zip (us ++ ws))
  | k :: r, h, m, hm, kV, doc, pm, an, cdv, ct, us, ws, e1, e2 => by
    rcases List.mem_cons.mp hm with e | hm
    · subst e
      exact allV (allV h.1.2 us e2) ws (by omega) kV doc pm an cdv ct
    · exact bd_of h.2 m hm kV doc pm an cdv ct us ws e1 e2
/-- where a def stands behind the top -/
def Ent (K : PySem.W.Frag) (nm : Str) (st : Stmt) : Prop := ∃ (f : Addr) (oc : Value) (od an : Option Addr) (osl : Array (Option Value)) (kV dc pm cd ct : Value), PySem.W.nsIn K mainGlobals nm = some (some (.ref f)) ∧
  K.lookup f = some ⟨oc, od, .func (PySem.W.fnOf nm nm (defArgs st) (defBody st) (defScope st) .none kV dc pm an cd ct), osl⟩ ∧ PySem.W.codeIn K cd nm = true ∧ PySem.W.keepIn K (.ref f) = true
theorem Ent.of {K : PySem.W.Frag} {nm : Str} {st : Stmt} {f : Addr} {oc : Value} {od an : Option Addr} {osl : Array (Option Value)} {kV dc pm cd ct : Value} (h1 : PySem.W.nsIn K mainGlobals nm = some (some (.ref f)))
    (h2 : K.lookup f = some ⟨oc, od, .func (PySem.W.fnOf nm nm (defArgs st) (defBody st) (defScope st) .none kV dc pm an cd ct), osl⟩) (h3 : PySem.W.codeIn K cd nm = true) (h4 : PySem.W.keepIn K (.ref f) = true) : Ent K nm st := ⟨f, oc, od, an, osl, kV, dc, pm, cd, ct, h1, h2, h3, h4⟩
def EntAll (K : PySem.W.Frag) : List (Df × Stmt) → Prop
  | [] => True
  | p :: r => Ent K p.1.nm p.2 ∧ EntAll K r
def NoneAll (K : PySem.W.Frag) : List Str → Prop
  | [] => True
  | x :: r => PySem.W.nsIn K mainGlobals x = some none ∧ NoneAll K r
def ConAll (K : PySem.W.Frag) : List (Str × Int) → Prop
  | [] => True
  | p :: r => (∃ t, PySem.W.nsIn K mainGlobals p.1 = some (some (.int p.2 t))) ∧ ConAll K r
theorem EntAll.cons {K : PySem.W.Frag} {p : Df × Stmt} {r : List (Df × Stmt)} (a : Ent K p.1.nm p.2) (b : EntAll K r) : EntAll K (p :: r) := ⟨a, b⟩
theorem NoneAll.cons {K : PySem.W.Frag} {x : Str} {r : List Str} (a : PySem.W.nsIn K mainGlobals x = some none) (b : NoneAll K r) : NoneAll K (x :: r) := ⟨a, b⟩
theorem ConAll.cons {K : PySem.W.Frag} {p : Str × Int} {r : List (Str × Int)} {t : Tok} (a : PySem.W.nsIn K mainGlobals p.1 = some (some (.int p.2 t))) (b : ConAll K r) : ConAll K (p :: r) := ⟨⟨t, a⟩, b⟩
structure TxtOk (tabS : List (Df × Stmt)) (cons : List (Str × Int)) : Prop where
  ok : ∀ p ∈ tabS, dfB (tabS.map (·.1)) cons p.1 p.2 = true ∧ BdOk p.1 p.2 ∧ p.1.qual = p.1.nm
def TxtAll (tab : List Df) (cons : List (Str × Int)) : List (Df × Stmt) → Prop
  | [] => True
  | p :: r => (dfB tab cons p.1 p.2 = true ∧ BdOk p.1 p.2 ∧ p.1.qual = p.1.nm) ∧ TxtAll tab cons r
theorem txt_get {tab : List Df} {cons : List (Str × Int)} : ∀ {l : List (Df × Stmt)}, TxtAll tab cons l → ∀ p ∈ l, dfB tab cons p.1 p.2 = true ∧ BdOk p.1 p.2 ∧ p.1.qual = p.1.nm
  | q :: r, e, p, hp => (List.mem_cons.mp hp).elim (fun k => k ▸ e.1) (txt_get e.2 p)
theorem txt_of {tabS : List (Df × Stmt)} {cons : List (Str × Int)} (h : TxtAll (tabS.map (·.1)) cons tabS) : TxtOk tabS cons := ⟨txt_get h⟩
def bHd (st : Stmt) : Stmt := (defBody st).headD (.Pass ⟨0, 0, 0, 0⟩)
def bTl (st : Stmt) : List Stmt := (defBody st).tail
theorem b_split {st : Stmt} (h : (defBody st).isEmpty = false) : defBody st = bHd st :: bTl st := by
  unfold bHd bTl
  cases hq : defBody st with
  | nil => rw [hq] at h; cases h
  | cons a r => rfl
section
variable {K : PySem.W.Frag} {mg : Str → Option Value} {h base : Heap} {tabS : List (Df × Stmt)} {cons : List (Str × Int)}
theorem Ent.get {nm : Str} {st : Stmt} (X : K.In h) (G : h.Ns mainGlobals mg) (e : Ent K nm st) : ∃ f fd, Fun K nm nm st f fd ∧ mg nm = some (.ref f) := by
  obtain ⟨f, oc, od, an, osl, kV, dc, pm, cd, ct, h1, h2, h3, h4⟩ := e
  exact ⟨f, _, fun_mk h2 h3 h4, PySem.W.mg_of X G h1⟩
theorem entAll_get : ∀ {l : List (Df × Stmt)}, EntAll K l → ∀ p ∈ l, Ent K p.1.nm p.2
  | q :: r, e, p, hp => (List.mem_cons.mp hp).elim (fun k => k ▸ e.1) (entAll_get e.2 p)
theorem noneAll_get (X : K.In h) (G : h.Ns mainGlobals mg) : ∀ {l : List Str}, NoneAll K l → ∀ x ∈ l, mg x = none
  | y :: r, e, x, hx => (List.mem_cons.mp hx).elim (fun k => k ▸ PySem.W.mg_none_of X G e.1) (noneAll_get X G e.2 x)
theorem conAll_get (X : K.In h) (G : h.Ns mainGlobals mg) : ∀ {l : List (Str × Int)}, ConAll K l → ∀ p ∈ l, ∃ t, mg p.1 = some (.int p.2 t)
  | q :: r, e, p, hp => (List.mem_cons.mp hp).elim (fun k => by
      obtain ⟨t, ht⟩ := e.1
      exact ⟨t, k ▸ PySem.W.mg_of X G ht⟩) (conAll_get X G e.2 p)
theorem gl_of (T : TxtOk tabS cons) (X : K.In h) (G : h.Ns mainGlobals mg) (e : EntAll K tabS) (z : NoneAll K bN) (c : ConAll K cons) (sys : ∃ o, base.get? sysModules = some o) : GlOk K mg base (tabS.map (·.1)) cons where
  sys := sys
  bn := noneAll_get X G z
  con := conAll_get X G c
  df := fun d hd => by
    obtain ⟨p, hp, rfl⟩ := List.mem_map.mp hd
    obtain ⟨h1, h2, h3⟩ := T.ok p hp
    obtain ⟨f, fd, F, hm⟩ := (entAll_get e p hp).get X G
    exact ⟨p.2, f, fd, ⟨by rw [h3]; exact F, hm, h1, h2⟩⟩
end
/-- all of a law's text but its plain law -/
structure LawTxt (tabS : List (Df × Stmt)) (cons : List (Str × Int)) (stB stL : Stmt) (NB NL : List Str) (t : Tg) (el : Ex) (own : List (Str × Nat)) (restB restL : Sms) : Prop where
  txt : TxtOk tabS cons
  b1 : sc0B NB ["script"] stB = true
  b2 : (defBody stB).isEmpty = false
  b3 : bag0B (tbOf (tabS.map (·.1)) cons) NB (defScope stB) t el own (bHd stB) = true
  b4 : chkSs (tbOf (tabS.map (·.1)) cons) NB 60 (defScope stB) restB (bTl stB) = true
  b5 : ∀ (kV doc pm : Value) (an : Option Addr) (cdv ct u : Value), bindArgs (PySem.W.fnOf "_law_bag" "_law_bag" (defArgs stB) (defBody stB) (defScope stB) .none kV doc pm an cdv ct) ⟨[u], []⟩ = pure [(("script" : Str), u)]
  l1 : sc0B NL ["script"] stL = true
  l2 : (defBody stL).isEmpty = false
  l3 : law0B (tbOf (tabS.map (·.1)) cons) NL (defScope stL) (bHd stL) = true
  l4 : chkSs (tbOf (tabS.map (·.1)) cons) NL 60 (defScope stL) restL (bTl stL) = true
  l5 : ∀ (kV doc pm : Value) (an : Option Addr) (cdv ct u : Value), bindArgs (PySem.W.fnOf "law" "law" (defArgs stL) (defBody stL) (defScope stL) .none kV doc pm an cdv ct) ⟨[u], []⟩ = pure [(("script" : Str), u)]
  l6 : 2 ≤ NL.length
section
variable {tabS : List (Df × Stmt)} {cons : List (Str × Int)} {stB stL : Stmt} {NB NL : List Str} {t : Tg} {el : Ex} {own : List (Str × Nat)} {restB restL : Sms}
theorem law_all (T : LawTxt tabS cons stB stL NB NL t el own restB restL) (n : Nat) {P : Program} {w : World} {K : PySem.W.Frag} {mg : Str → Option Value} {h : Heap} {fa : Addr} (X : K.In h) (G : h.Ns mainGlobals mg) (hfa : mg "law" = some (.ref fa))
    (e : EntAll K tabS) (z : NoneAll K bN) (c : ConAll K cons) (eB : Ent K "_law_bag" stB) (eL : Ent K "law" stL) :
    ∃ fd : FuncData, (∀ (s : Shared) (u : Value), BindsTo s fd ⟨[u], []⟩ [("script", u)]) ∧ ∀ base : Heap, K.In base → base.Ns mainGlobals mg → (∃ o, base.get? sysModules = some o) →
      FnG P w K mg base (n + 2) fa fd ["script"] (spLaw K (bagEv (run (tabS.map (·.1)) n) NB.length t el own restB) (lawEv (run (tabS.map (·.1)) (n + 1)) NL.length restL)) := by
  obtain ⟨fl, fdl, FL, hml⟩ := eL.get X G
  obtain ⟨fb, fdb, FB, hmb⟩ := eB.get X G
  have ef := hfa.symm.trans hml
  cases ef
  refine ⟨fdl, fun s u => ?_, fun base hk hG sys => ?_⟩
  · obtain ⟨oc, od, kV, doc, pm, an, cdv, ct, osl, rfl, _⟩ := FL.ex
    exact .of_eq (T.l5 kV doc pm an cdv ct u)
  · have GL := gl_of (base := base) T.txt X G e z c sys
    have B := bag_fn (P := P) (w := w) (n := n) (ps := ["script"]) GL FB rfl T.b1 (b_split T.b2) T.b3 T.b4
    exact law_fn GL FL rfl T.l1 T.l6 (b_split T.l2) T.l3 T.l4 B hmb FB.kp (fun s u => by
      obtain ⟨oc, od, kV, doc, pm, an, cdv, ct, osl, rfl, _⟩ := FB.ex
      exact .of_eq (T.b5 kV doc pm an cdv ct u)) rfl
theorem walk_txt {l : PySem.W.OpenLaw} {m : Nat} {q : Program} {loose : List Str} {XP : (Str → Option Value) → Heap → Prop} {YP : World → Heap → Prop} {d : DefRec} {K : Params → PySem.W.Frag} (T : LawTxt tabS cons stB stL NB NL t el own restB restL) (n : Nat)
    (hm : l.most = some m) (hm2 : m ≤ sizeLine) (hdf : d.params.defaults = []) (hr : Room (n + 2) callerA) (hq : importsNone q = true) (hY : ∀ (w : World) (h : Heap), YP w h → (K w.params).In h) (hd : d.name = "law")
    (E : ∀ w : World, EntAll (K w.params) tabS ∧ NoneAll (K w.params) bN ∧ ConAll (K w.params) cons ∧ Ent (K w.params) "_law_bag" stB ∧ Ent (K w.params) "law" stL)
    (plain : ∀ ns : List Int, ns.length ≤ m → ∃ β b' b'', bagEv (run (tabS.map (·.1)) n) NB.length t el own restB ns = some (Bg.d β, b') ∧ lawEv (run (tabS.map (·.1)) (n + 1)) NL.length restL β = some (.d (.bool true), b'')) :
    PySem.W.WalkO q loose XP YP l.row.toRowW d [] (fun f vs => PySem.call f vs) := by
  refine walk_law (n := n + 2) (x := "script") (sp := fun w => spLaw (K w.params) (bagEv (run (tabS.map (·.1)) n) NB.length t el own restB) (lawEv (run (tabS.map (·.1)) (n + 1)) NL.length restL)) hm hm2 hdf hr hq hY (fun w mg fa h X G hmg => ?_) fun w H a ns hl hO hS => ?_
  · rw [hd] at hmg
    obtain ⟨e, z, c, eB, eL⟩ := E w
    exact law_all T n X G hmg e z c eB eL
  · obtain ⟨β, b', b'', h1, h2⟩ := plain ns hl
    exact ⟨a, ns, β, b', b'', rfl, hS, h1, h2, fun _ => rfl⟩
end
end Mz

set_option Elab.async false
set_option linter.all false
set_option maxRecDepth 100000
set_option autoImplicit false
/-! Mz29: plain laws of the evaluator: comprehensions and loops by their turns. -/
namespace Mz
open PySem PySem.Spec L2
open PyProof.Rows hiding St

def compStep (t : Tg) (c e : MU) (vs : List Nat) (d : PyData) (z : Z) : Option (Option PyData × Z) := (bindT t d z).bind fun z1 => (c z1).bind fun q => (asB q.1).bind fun b =>
  if b then (e q.2).bind fun r => (esc r.2 r.1).bind fun w => some (some w.1, w.2.wipe vs) else some (none, q.2.wipe vs)
theorem compGo_cons {t : Tg} {c e : MU} {vs : List Nat} {d : PyData} {ds : List PyData} {z z' : Z} {acc : List PyData} {o : Option PyData} (h : compStep t c e vs d z = some (o, z')) (hl : acc.length < sizeLine) :
    compGo t c e vs (d :: ds) z acc = compGo t c e vs ds z' (acc ++ o.toList) := by
  unfold compStep at h
  show ((bindT t d z).bind fun z1 => (c z1).bind fun p => (asB p.1).bind fun b =>
    if b then (e p.2).bind fun q => (esc q.2 q.1).bind fun w => (ifc (decide (acc.length < sizeLine)) ()).bind fun _ => compGo t c e vs ds (w.2.wipe vs) (acc ++ [w.1]) else compGo t c e vs ds (p.2.wipe vs) acc) = _
  obtain ⟨z1, h1, h⟩ := bnd h
  obtain ⟨q, h2, h⟩ := bnd h
  obtain ⟨b, h3, h⟩ := bnd h
  rw [h1]
  show ((c z1).bind _) = _
  rw [h2]
  show ((asB q.1).bind _) = _
  rw [h3]
  cases b with
  | true =>
    simp only [if_true] at h
    obtain ⟨r, h4, h⟩ := bnd h
    obtain ⟨w, h5, h⟩ := bnd h
    cases h
    show ((e q.2).bind _) = _
    rw [h4]
    show ((esc r.2 r.1).bind _) = _
    rw [h5]
    show ((ifc (decide (acc.length < sizeLine)) ()).bind _) = _
    rw [decide_eq_true hl]
    rfl
  | false =>
    simp only [Bool.false_eq_true, if_false] at h
    cases h
    show compGo t c e vs ds (q.2.wipe vs) acc = compGo t c e vs ds (q.2.wipe vs) (acc ++ [])
    rw [List.append_nil]
/-- turns that leave the state as it was -/
theorem compGo_pure {t : Tg} {c e : MU} {vs : List Nat} {z : Z} {f : PyData → Option PyData} : ∀ {items acc : List PyData}, (∀ d ∈ items, compStep t c e vs d z = some (f d, z)) → acc.length + items.length ≤ sizeLine →
    compGo t c e vs items z acc = some (acc ++ items.filterMap f, z)
  | [], acc, _, _ => by
    show some (acc, z) = _
    simp
  | d :: ds, acc, h, hl => by
    have hl' : acc.length + ds.length + 1 ≤ sizeLine := by simpa [Nat.add_assoc] using hl
    rw [compGo_cons (h d List.mem_cons_self) (by omega)]
    have hs : (acc ++ (f d).toList).length + ds.length ≤ sizeLine := by
      rw [List.length_append]
      have : (f d).toList.length ≤ 1 := by cases f d <;> simp
      omega
    rw [compGo_pure (fun x m => h x (List.mem_cons_of_mem _ m)) hs]
    cases hf : f d with
    | none => simp [hf]
    | some x => simp [hf]
/-- turns that move the state along a chain -/
theorem compGo_fold {t : Tg} {c e : MU} {vs : List Nat} {α : Type} {zs : α → Z} {stp : PyData → α → Option (Option PyData × α)} (h : ∀ d a o a', stp d a = some (o, a') → compStep t c e vs d (zs a) = some (o, zs a')) :
    ∀ {items acc : List PyData} {a a' : α} {out : List PyData}, (items.foldlM (fun (s : List PyData × α) d => (stp d s.2).map fun q => (s.1 ++ q.1.toList, q.2)) (acc, a)) = some (out, a') → acc.length + items.length ≤ sizeLine →
    compGo t c e vs items (zs a) acc = some (out, zs a')
  | [], acc, a, a', out, hq, _ => by
    cases hq
    rfl
  | d :: ds, acc, a, a', out, hq, hl => by
    rw [List.foldlM_cons] at hq
    obtain ⟨s, h1, hq⟩ := Option.bind_eq_some_iff.mp hq
    obtain ⟨q, h2, rfl⟩ := Option.map_eq_some_iff.mp h1
    have hl' : acc.length + ds.length + 1 ≤ sizeLine := by simpa [Nat.add_assoc] using hl
    rw [compGo_cons (h d a q.1 q.2 h2) (by omega)]
    refine compGo_fold h hq ?_
    rw [List.length_append]
    have : q.1.toList.length ≤ 1 := by cases q.1 <;> simp
    omega
/-- a comprehension, its parts known -/
theorem compE_of {it : MI} {t : Tg} {c e : MU} {vs : List Nat} {z z1 zf ze : Z} {items acc : List PyData} {lks : List Nat} (h1 : it z = some (items, lks, z1)) (h2 : fzs (z1.lock lks) vs = some zf) (h3 : compGo t c e vs items (zf.wipe vs) [] = some (acc, ze)) :
    compE it t c e vs z = some (.nw acc, ⟨freeR z1.r (putBack zf.r ze.r vs) lks, ze.b⟩) := by
  unfold compE
  rw [h1]
  show ((fzs (z1.lock lks) vs).bind _) = _
  rw [h2]
  show ((compGo t c e vs items (zf.wipe vs) []).bind _) = _
  rw [h3]
  rfl
/-- a loop whose turns all go on -/
theorem forGo_fold {t : Tg} {body : MS} {α : Type} {zs : α → Z} {stp : PyData → α → α} (h : ∀ d a, ∃ z1, bindT t d (zs a) = some z1 ∧ body z1 = some (.nx (zs (stp d a)))) : ∀ (items : List PyData) (a : α), forGo t body items (zs a) = some (.nx (zs (items.foldl (fun a d => stp d a) a)))
  | [], a => rfl
  | d :: ds, a => by
    obtain ⟨z1, h1, h2⟩ := h d a
    show ((bindT t d (zs a)).bind _) = _
    rw [h1]
    show ((body z1).bind _) = _
    rw [h2]
    exact forGo_fold h ds (stp d a)
end Mz

set_option Elab.async false
set_option linter.all false
set_option maxRecDepth 100000
set_option autoImplicit false
/-! Mz30: one step of the evaluator at a time. -/
namespace Mz
open PySem PySem.Spec L2
open PyProof.Rows hiding St
section
variable {f g h : MU} {fl : ML} {z z1 z2 z3 : Z} {u : U} {us : List U} {b : Bool} {a m : MS}
theorem notE_of (e : f z = some (.d (.bool b), z1)) : notE f z = some (.d (.bool (!b)), z1) := by unfold notE; rw [e]; rfl
theorem orE_f (e : f z = some (.d (.bool false), z1)) : orE f g z = g z1 := by unfold orE; rw [e]; rfl
theorem orE_t (e : f z = some (.d (.bool true), z1)) : orE f g z = some (.d (.bool true), z1) := by unfold orE; rw [e]; rfl
theorem andE_t (e : f z = some (.d (.bool true), z1)) : andE f g z = g z1 := by unfold andE; rw [e]; rfl
theorem andE_f (e : f z = some (.d (.bool false), z1)) : andE f g z = some (.d (.bool false), z1) := by unfold andE; rw [e]; rfl
theorem iteE_t (e : h z = some (.d (.bool true), z1)) : iteE h f g z = f z1 := by unfold iteE; rw [e]; rfl
theorem iteE_f (e : h z = some (.d (.bool false), z1)) : iteE h f g z = g z1 := by unfold iteE; rw [e]; rfl
theorem ifS_t (e : h z = some (.d (.bool true), z1)) : ifS h a m z = a z1 := by unfold ifS; rw [e]; rfl
theorem ifS_f (e : h z = some (.d (.bool false), z1)) : ifS h a m z = m z1 := by unfold ifS; rw [e]; rfl
theorem seqS_nx (e : a z = some (.nx z1)) : seqS a m z = m z1 := by unfold seqS; rw [e]; rfl
theorem seqS_rt {r : R} {β : Bg} (e : a z = some (.rt r β)) : seqS a m z = some (.rt r β) := by unfold seqS; rw [e]; rfl
theorem seqS_bk (e : a z = some (.bk z1)) : seqS a m z = some (.bk z1) := by unfold seqS; rw [e]; rfl
theorem seqS_ct (e : a z = some (.ct z1)) : seqS a m z = some (.ct z1) := by unfold seqS; rw [e]; rfl
theorem retS_of {r : R} (e : f z = some (u, z1)) (e2 : retU z1 u = some r) : retS f z = some (.rt r z1.b) := by unfold retS; rw [e]; show ((retU z1 u).bind _) = _; rw [e2]; rfl
theorem consE_of (e : f z = some (u, z1)) (e2 : fl z1 = some (us, z2)) : consE f fl z = some (u :: us, z2) := by unfold consE; rw [e]; show ((fl z1).bind _) = _; rw [e2]; rfl
theorem biE_of {k : Bi} {ds : List PyData} {w : R} (e : fl z = some (us, z1)) (e2 : rds z1 us = some ds) (e3 : biS k ds = some w) : biE k fl z = some (w.u, z1) := by unfold biE; rw [e]; show ((rds z1 us).bind _) = _; rw [e2]; show ((biS k ds).bind _) = _; rw [e3]; rfl
theorem exprS_of (e : f z = some (u, z1)) : exprS f z = some (.nx z1) := by unfold exprS; rw [e]; rfl
end
end Mz

set_option Elab.async false
set_option linter.all false
set_option maxRecDepth 100000
set_option autoImplicit false
/-! Mz31: a calculus for the evaluator: wR, and rules that simp uses (named in one row). -/
namespace Mz
open PySem PySem.Spec L2
open PyProof.Rows hiding St

def wR {α : Type} (o : Option α) (Q : α → Prop) : Prop := ∃ x, o = some x ∧ Q x
section
variable {α β : Type}
theorem wR_some (x : α) (Q : α → Prop) : wR (some x) Q = Q x := propext ⟨fun ⟨_, e, h⟩ => by cases e; exact h, fun h => ⟨x, rfl, h⟩⟩
theorem wR_none (Q : α → Prop) : wR none Q = False := propext ⟨(fun ⟨_, e, _⟩ => nomatch e), (fun h => h.elim)⟩
theorem wR_bind (o : Option α) (f : α → Option β) (Q : β → Prop) : wR (o.bind f) Q = wR o fun x => wR (f x) Q := by
  cases o with
  | none => exact propext ⟨(fun ⟨_, e, _⟩ => nomatch e), (fun ⟨_, e, _⟩ => nomatch e)⟩
  | some x => rw [wR_some]; rfl
theorem wR_map (o : Option α) (f : α → β) (Q : β → Prop) : wR (o.map f) Q = wR o fun x => Q (f x) := by
  cases o with
  | none => exact propext ⟨(fun ⟨_, e, _⟩ => nomatch e), (fun ⟨_, e, _⟩ => nomatch e)⟩
  | some x => rw [wR_some]; exact wR_some _ _
theorem ifc_false (x : α) : ifc false x = none := rfl
theorem wR_ifc (c : Bool) (x : α) (Q : α → Prop) : wR (ifc c x) Q = (c = true ∧ Q x) := by
  cases c with
  | true => rw [ifc_true, wR_some]; exact propext ⟨fun h => ⟨rfl, h⟩, fun h => h.2⟩
  | false => exact propext ⟨(fun ⟨_, e, _⟩ => nomatch e), (fun h => nomatch h.1)⟩
theorem wR_ite (c : Prop) [Decidable c] (a b : Option α) (Q : α → Prop) : wR (if c then a else b) Q = if c then wR a Q else wR b Q := by split <;> rfl
theorem wR_eq {o : Option α} {x : α} (h : wR o fun y => y = x) : o = some x := by obtain ⟨y, e, rfl⟩ := h; exact e
theorem wR_of {o : Option α} {x : α} (h : o = some x) : wR o fun y => y = x := ⟨x, h, rfl⟩
theorem wR_mono {o : Option α} {P Q : α → Prop} (h : wR o P) (hpq : ∀ x, P x → Q x) : wR o Q := by obtain ⟨y, e, p⟩ := h; exact ⟨y, e, hpq y p⟩
end

/-! ### slots and values -/
def varU (i : Nat) (z : Z) : Option Sl → Option (U × Z)
  | some (.val x) => some (.d x, z)
  | some (.own _) => some (.loc i, z)
  | some (.lck _) => some (.loc i, z)
  | some .bag => some (.bag, z)
  | _ => none
def escL (i : Nat) (z : Z) : Option Sl → Option (PyData × Z)
  | some (.own xs) => some (.list xs, z.put i (.val (.list xs)))
  | some (.val x) => some (x, z)
  | _ => none
def setOk : Sl → Bool
  | .lck _ => false
  | .bag => false
  | _ => true
def quietB : Sl → Bool
  | .no => true
  | .val _ => true
  | _ => false
def ownS : Option Sl → Option (List PyData)
  | some (.own xs) => some xs
  | _ => none
def canS : Option Sl → Bool
  | some s => setOk s
  | none => false
def isBg : Option Sl → Bool
  | some .bag => true
  | _ => false
def retL : Option Sl → Option R
  | some (.val x) => some (.d x)
  | some (.own xs) => some (.nw xs)
  | some (.lck xs) => some (.nw xs)
  | _ => none
def fzG (z : Z) (i : Nat) (is : List Nat) : Option Sl → Option Z
  | some (.own xs) => fzs (z.put i (.val (.list xs))) is
  | some (.val _) => fzs z is
  | some .no => fzs z is
  | _ => none
def lkG (r : List Sl) (i : Nat) : Option Sl → List Sl
  | some (.own xs) => r.set i (.lck xs)
  | _ => r
def frG (r : List Sl) (i : Nat) : Option Sl → Option Sl → List Sl
  | some (.own _), some (.lck xs) => r.set i (.own xs)
  | _, _ => r
def pbG (r : List Sl) (v : Nat) : Option Sl → List Sl
  | some s => r.set v s
  | none => r
section
variable (i j : Nat) (z : Z) (x : PyData) (xs : List PyData) (s : Sl) (r r0 : List Sl) (β : Bg) (is : List Nat) (u : U) (us : List U)
theorem varU_val : varU i z (some (.val x)) = some (.d x, z) := rfl
theorem varU_own : varU i z (some (.own xs)) = some (.loc i, z) := rfl
theorem varU_lck : varU i z (some (.lck xs)) = some (.loc i, z) := rfl
theorem varU_bag : varU i z (some .bag) = some (.bag, z) := rfl
theorem escL_own : escL i z (some (.own xs)) = some (.list xs, z.put i (.val (.list xs))) := rfl
theorem escL_val : escL i z (some (.val x)) = some (x, z) := rfl
theorem ownS_own : ownS (some (.own xs)) = some xs := rfl
theorem canS_some : canS (some s) = setOk s := rfl
theorem setOk_no : setOk .no = true := rfl
theorem setOk_val : setOk (.val x) = true := rfl
theorem setOk_own : setOk (.own xs) = true := rfl
theorem quietB_no : quietB .no = true := rfl
theorem quietB_val : quietB (.val x) = true := rfl
theorem isBg_bag : isBg (some .bag) = true := rfl
theorem retL_val : retL (some (.val x)) = some (.d x) := rfl
theorem retL_own : retL (some (.own xs)) = some (.nw xs) := rfl
theorem retL_lck : retL (some (.lck xs)) = some (.nw xs) := rfl
theorem setOk_of_quiet {s : Sl} (h : quietB s = true) : setOk s = true := by cases s <;> first | rfl | cases h
theorem ownOf_G : ownOf z i = ownS z.r[i]? := by unfold ownOf ownS; rfl
theorem canSet_G : canSet z i = canS z.r[i]? := by
  unfold canSet canS setOk
  cases z.r[i]? with
  | none => rfl
  | some s => cases s <;> rfl
theorem isBag_G : isBag z i = isBg z.r[i]? := by unfold isBag isBg; rfl
theorem put_G : z.put i s = ⟨z.r.set i s, z.b⟩ := rfl
theorem fzs_nil : fzs z [] = some z := rfl
theorem fzs_cons : fzs z (i :: is) = fzG z i is z.r[i]? := by
  show (match z.r[i]? with | some (.own xs) => fzs (z.put i (.val (.list xs))) is | some (.val _) => fzs z is | some .no => fzs z is | _ => none) = _
  unfold fzG; rfl
theorem fzG_own : fzG z i is (some (.own xs)) = fzs (z.put i (.val (.list xs))) is := rfl
theorem fzG_val : fzG z i is (some (.val x)) = fzs z is := rfl
theorem fzG_no : fzG z i is (some .no) = fzs z is := rfl
theorem fzG_quiet {s : Sl} (h : quietB s = true) : fzG z i is (some s) = fzs z is := by cases s <;> first | rfl | cases h
theorem wipeR_nil : wipeR r [] = r := rfl
theorem wipeR_cons : wipeR r (i :: is) = (wipeR r is).set i .no := rfl
theorem wipe_G : z.wipe is = ⟨wipeR z.r is, z.b⟩ := rfl
theorem putBack_nil : putBack r0 r [] = r := rfl
theorem putBack_cons : putBack r0 r (i :: is) = pbG (putBack r0 r is) i r0[i]? := by
  show (match r0[i]? with | some s => (putBack r0 r is).set i s | none => putBack r0 r is) = _
  unfold pbG; cases r0[i]? <;> rfl
theorem pbG_some : pbG r i (some s) = r.set i s := rfl
theorem lockR_nil : lockR r [] = r := rfl
theorem lockR_cons : lockR r (i :: is) = lockR (lkG r i r[i]?) is := by
  show lockR (lock1 r i) is = _
  unfold lock1 lkG; rfl
theorem lkG_own : lkG r i (some (.own xs)) = r.set i (.lck xs) := rfl
theorem lkG_lck : lkG r i (some (.lck xs)) = r := rfl
theorem lkG_val : lkG r i (some (.val x)) = r := rfl
theorem lock_G : z.lock is = ⟨lockR z.r is, z.b⟩ := rfl
theorem freeR_nil : freeR r0 r [] = r := rfl
theorem freeR_cons : freeR r0 r (i :: is) = freeR r0 (frG r i r0[i]? r[i]?) is := by
  show freeR r0 (free1 r0 r i) is = _
  unfold free1 frG; rfl
theorem frG_own (ys : List PyData) : frG r i (some (.own ys)) (some (.lck xs)) = r.set i (.own xs) := rfl
theorem frG_lck (ys : List PyData) : frG r i (some (.lck ys)) (some s) = r := rfl
theorem frG_val (y : PyData) : frG r i (some (.val y)) (some s) = r := rfl
theorem rd_d : rd z (.d x) = some x := rfl
theorem rd_nw : rd z (.nw xs) = some (.list xs) := rfl
theorem rd_loc : rd z (.loc i) = rdS z.r[i]? := rfl
theorem rdS_val : rdS (some (.val x)) = some x := rfl
theorem rdS_own : rdS (some (.own xs)) = some (.list xs) := rfl
theorem rdS_lck : rdS (some (.lck xs)) = some (.list xs) := rfl
theorem rds_nil : rds z [] = some [] := rfl
theorem rds_cons : rds z (u :: us) = (rd z u).bind fun x => (rds z us).bind fun xs => some (x :: xs) := by
  show (match rd z u, rds z us with | some x, some xs => some (x :: xs) | _, _ => none) = _
  cases rd z u with
  | none => rfl
  | some a => cases rds z us <;> rfl
theorem esc_d : esc z (.d x) = some (x, z) := rfl
theorem esc_nw : esc z (.nw xs) = some (.list xs, z) := rfl
theorem esc_loc : esc z (.loc i) = escL i z z.r[i]? := by unfold escL esc; rfl
theorem escs_nil : escs z [] = some ([], z) := rfl
theorem escs_cons : escs z (u :: us) = (esc z u).bind fun p => (escs p.2 us).bind fun q => some (p.1 :: q.1, q.2) := rfl
theorem argU_bag : argU z .bag = some (.bag, z) := rfl
theorem argU_d : argU z (.d x) = some (.d x, z) := rfl
theorem argU_nw : argU z (.nw xs) = some (.d (.list xs), z) := rfl
theorem argU_loc : argU z (.loc i) = (escL i z z.r[i]?).bind fun p => some (.d p.1, p.2) := by rw [← esc_loc]; rfl
theorem argL_nil : argL z [] = some ([], z) := rfl
theorem argL_cons : argL z (u :: us) = (argU z u).bind fun p => (argL p.2 us).bind fun q => some (p.1 :: q.1, q.2) := rfl
theorem resU_d : resU z (.d x) = some (.d x, z) := rfl
theorem resU_nw : resU z (.nw xs) = some (.nw xs, z) := rfl
theorem resU_loc : resU z (.loc i) = (escL i z z.r[i]?).bind fun p => some (.d p.1, p.2) := by rw [← esc_loc]; rfl
theorem resL_nil : resL z [] = some ([], z) := rfl
theorem resL_cons : resL z (u :: us) = (resU z u).bind fun p => (resL p.2 us).bind fun q => some (p.1 :: q.1, q.2) := rfl
theorem stoR_d : stoR z i (.d x) = ifc (canS z.r[i]?) ⟨z.r.set i (.val x), z.b⟩ := by rw [← canSet_G]; rfl
theorem stoR_nw : stoR z i (.nw xs) = ifc (canS z.r[i]?) ⟨z.r.set i (.own xs), z.b⟩ := by rw [← canSet_G]; rfl
theorem stoL_nil : stoL z [] [] = some z := rfl
theorem stoL_cons (w : R) (ws : List R) : stoL z (i :: is) (w :: ws) = (stoR z i w).bind fun z1 => stoL z1 is ws := rfl
theorem retU_d : retU z (.d x) = some (.d x) := rfl
theorem retU_nw : retU z (.nw xs) = some (.nw xs) := rfl
theorem retU_loc : retU z (.loc i) = retL z.r[i]? := by unfold retL retU; rfl
theorem asB_bool (b : Bool) : asB (.d (.bool b)) = some b := rfl
theorem Ru_d : (R.d x).u = .d x := rfl
theorem Ru_nw : (R.nw xs).u = .nw xs := rfl
theorem lkOf_d : lkOf (.d x) = [] := rfl
theorem lkOf_nw : lkOf (.nw xs) = [] := rfl
theorem lkOf_loc : lkOf (.loc i) = [i] := rfl
theorem slot0_d : slot0 (.d x) = .val x := rfl
theorem slot0_bag : slot0 .bag = .bag := rfl
theorem init_G (n : Nat) (as : List A) : init n as β = ⟨as.map slot0 ++ List.replicate (n - as.length) .no, β⟩ := rfl
theorem endF_nx : endF (.nx z) = some (.d .none, z.b) := rfl
theorem endF_rt (w : R) : endF (.rt w β) = some (w, β) := rfl
theorem intD_int (k : Int) : intD (.int k) = some k := rfl
theorem lstD_list : lstD (.list xs) = some xs := rfl
theorem seqD_list : seqD (.list xs) = some xs := rfl
theorem seqD_tuple : seqD (.tuple xs) = some xs := rfl
theorem bindT_nm : bindT (.nm i) x z = ifc (canS z.r[i]?) ⟨z.r.set i (.val x), z.b⟩ := by rw [← canSet_G]; rfl
theorem bindT_tup (ts : Tgs) : bindT (.tup ts) (.tuple xs) z = bindTs ts xs z := rfl
theorem bindTs_nil : bindTs .nil [] z = some z := rfl
theorem bindTs_cons (t : Tg) (ts : Tgs) : bindTs (.cons t ts) (x :: xs) z = (bindT t x z).bind fun z1 => bindTs ts xs z1 := rfl
end
section
variable {α β : Type}
theorem g_zero (a : α) (l : List α) : (a :: l)[0]? = some a := rfl
theorem g_succ (a : α) (l : List α) (n : Nat) : (a :: l)[n + 1]? = l[n]? := rfl
theorem s_zero (a b : α) (l : List α) : (a :: l).set 0 b = b :: l := rfl
theorem s_succ (a b : α) (l : List α) (n : Nat) : (a :: l).set (n + 1) b = a :: l.set n b := rfl
theorem m_cons (f : α → β) (a : α) (l : List α) : (a :: l).map f = f a :: l.map f := rfl
theorem m_nil (f : α → β) : ([] : List α).map f = [] := rfl
theorem a_nil (l : List α) : [] ++ l = l := rfl
theorem a_cons (a : α) (l m : List α) : (a :: l) ++ m = a :: (l ++ m) := rfl
theorem nil_a (l : List α) : l ++ [] = l := List.append_nil l
theorem o_some (a : α) (f : α → Option β) : (some a).bind f = f a := rfl
theorem o_none (f : α → Option β) : (none : Option α).bind f = none := rfl
theorem o_map (a : α) (f : α → β) : (some a).map f = some (f a) := rfl
theorem o_mapn (f : α → β) : (none : Option α).map f = none := rfl
theorem l_cons (a : α) (l : List α) : (a :: l).length = l.length + 1 := rfl
theorem l_nil : ([] : List α).length = 0 := rfl
theorem r_zero (a : α) : List.replicate 0 a = [] := rfl
theorem r_succ (n : Nat) (a : α) : List.replicate (n + 1) a = a :: List.replicate n a := rfl
theorem i_t (a b : α) : (if true = true then a else b) = a := rfl
theorem i_f (a b : α) : (if false = true then a else b) = b := rfl
theorem i_T (a b : α) : (if True then a else b) = a := if_pos trivial
theorem i_F (a b : α) : (if False then a else b) = b := if_neg not_false
theorem d_T : decide True = true := rfl
theorem d_F : decide False = false := rfl
theorem d_eq (p : Prop) [Decidable p] : (decide p = true) = p := by simp
theorem b_tt : (true = true) = True := by simp
theorem b_ft : (false = true) = False := by simp
theorem t_and (p : Prop) : (True ∧ p) = p := by simp
theorem and_t (p : Prop) : (p ∧ True) = p := by simp
theorem f_and (p : Prop) : (False ∧ p) = False := by simp
theorem n_t : (!true) = false := rfl
theorem n_f : (!false) = true := rfl
theorem z_le (n : Nat) : (0 ≤ n) = True := by simp
theorem p_1 (a : α) (b : β) : (a, b).1 = a := rfl
theorem p_2 (a : α) (b : β) : (a, b).2 = b := rfl
theorem z_r (r : List Sl) (b : Bg) : (Z.mk r b).r = r := rfl
theorem z_b (r : List Sl) (b : Bg) : (Z.mk r b).b = b := rfl
end
theorem sizeLine_G : sizeLine = 16777216 := rfl

/-! ### operators on data -/
section
variable (a b c : PyData) (i j : Int) (xs ys : List PyData) (x y : Str) (p q : Bool)
theorem binS_add : binS .Add = addS := rfl
theorem binS_sub : binS .Sub = subS := rfl
theorem binS_mul : binS .Mult = mulS := rfl
theorem binS_mod : binS .Mod = modS := rfl
theorem binS_fdiv : binS .FloorDiv = fdivS := rfl
theorem binS_pow : binS .Pow = powS := rfl
theorem addS_int : addS (.int i) (.int j) = some (.d (.int (i + j))) := rfl
theorem addS_list : addS (.list xs) (.list ys) = ifc (decide (xs.length + ys.length ≤ sizeLine)) (.nw (xs ++ ys)) := rfl
theorem addS_tuple : addS (.tuple xs) (.tuple ys) = ifc (decide (xs.length + ys.length ≤ sizeLine)) (.d (.tuple (xs ++ ys))) := rfl
theorem subS_int : subS (.int i) (.int j) = some (.d (.int (i - j))) := rfl
theorem mulS_int : mulS (.int i) (.int j) = ifc (decide (i.natAbs.log2 + j.natAbs.log2 < 1000000)) (.d (.int (i * j))) := rfl
theorem mulS_list : mulS (.list xs) (.int j) = ifc (decide (-(2 ^ 63) ≤ j) && decide (j < 2 ^ 63) && decide (xs.length * j.toNat ≤ sizeLine)) (.nw (List.replicate j.toNat xs).flatten) := rfl
theorem modS_int : modS (.int i) (.int j) = ifc (decide (0 < j)) (.d (.int (i % j))) := rfl
theorem fdivS_int : fdivS (.int i) (.int j) = ifc (decide (0 < j) && decide (j.natAbs.log2 < 9000)) (.d (.int (i / j))) := rfl
theorem powS_int : powS (.int i) (.int j) = ifc (decide (0 ≤ j) && decide (j ≤ 1000000) && decide (i.natAbs < 2 ^ 64)) (.d (.int (i ^ j.toNat))) := rfl
theorem cmpS_eq : cmpS .Eq a b = eqS a b := rfl
theorem cmpS_ne : cmpS .NotEq a b = (eqS a b).map (!·) := rfl
theorem cmpS_lt : cmpS .Lt (.int i) (.int j) = some (decide (i < j)) := rfl
theorem cmpS_le : cmpS .LtE (.int i) (.int j) = some (decide (i ≤ j)) := rfl
theorem cmpS_gt : cmpS .Gt (.int i) (.int j) = some (decide (j < i)) := rfl
theorem cmpS_ge : cmpS .GtE (.int i) (.int j) = some (decide (j ≤ i)) := rfl
theorem cmpS_in : cmpS .In a b = inS a b := rfl
theorem cmpS_ni : cmpS .NotIn a b = (inS a b).map (!·) := rfl
theorem shp_int : SeqAt.shaped (.int i) = true := by simp [SeqAt.shaped, PyData.canLay0, PyData.depth]
theorem shp_none : SeqAt.shaped .none = true := by simp [SeqAt.shaped, PyData.canLay0, PyData.depth]
theorem shp_bool : SeqAt.shaped (.bool p) = true := by simp [SeqAt.shaped, PyData.canLay0, PyData.depth]
theorem eqS_int : eqS (.int i) (.int j) = some (decide (i = j)) := by
  show ifc (SeqAt.shaped _ && SeqAt.shaped _) (PyData.eqv _ _) = _
  rw [shp_int, shp_int]
  show some (i == j) = _
  congr 1
theorem eqS_bool : eqS (.bool p) (.bool q) = some (p == q) := by
  show ifc (SeqAt.shaped _ && SeqAt.shaped _) (PyData.eqv _ _) = _
  rw [shp_bool, shp_bool]
  rfl
theorem eqS_str : eqS (.str x) (.str y) = some (decide (x = y)) := rfl
theorem eqS_nil : eqS (.tuple xs) (.tuple []) = some xs.isEmpty := rfl
theorem isi_int_int : isiD .int (.int i) = true := rfl
theorem isi_int_bool : isiD .int (.bool p) = true := rfl
theorem isi_int_none : isiD .int .none = false := rfl
theorem isi_int_str : isiD .int (.str x) = false := rfl
theorem isi_int_list : isiD .int (.list xs) = false := rfl
theorem isi_int_tuple : isiD .int (.tuple xs) = false := rfl
theorem isi_int_dict (kv : List (PyData × PyData)) : isiD .int (.dict kv) = false := rfl
theorem isi_bool_int : isiD .bool (.int i) = false := rfl
theorem isi_bool_bool : isiD .bool (.bool p) = true := rfl
theorem isi_bool_none : isiD .bool .none = false := rfl
theorem isi_bool_str : isiD .bool (.str x) = false := rfl
theorem isi_bool_list : isiD .bool (.list xs) = false := rfl
theorem isi_bool_tuple : isiD .bool (.tuple xs) = false := rfl
theorem isi_bool_dict (kv : List (PyData × PyData)) : isiD .bool (.dict kv) = false := rfl
theorem isi_str_int : isiD .str (.int i) = false := rfl
theorem isi_str_bool : isiD .str (.bool p) = false := rfl
theorem isi_str_none : isiD .str .none = false := rfl
theorem isi_str_str : isiD .str (.str x) = true := rfl
theorem isi_str_list : isiD .str (.list xs) = false := rfl
theorem isi_str_tuple : isiD .str (.tuple xs) = false := rfl
theorem isi_str_dict (kv : List (PyData × PyData)) : isiD .str (.dict kv) = false := rfl
theorem isi_tuple_int : isiD .tuple (.int i) = false := rfl
theorem isi_tuple_bool : isiD .tuple (.bool p) = false := rfl
theorem isi_tuple_none : isiD .tuple .none = false := rfl
theorem isi_tuple_str : isiD .tuple (.str x) = false := rfl
theorem isi_tuple_list : isiD .tuple (.list xs) = false := rfl
theorem isi_tuple_tuple : isiD .tuple (.tuple xs) = true := rfl
theorem isi_tuple_dict (kv : List (PyData × PyData)) : isiD .tuple (.dict kv) = false := rfl
theorem isC_nn : isCst .non .none = true := rfl
theorem isC_ni : isCst .non (.int i) = false := rfl
theorem isC_nb : isCst .non (.bool p) = false := rfl
theorem isC_ns : isCst .non (.str x) = false := rfl
theorem isC_nl : isCst .non (.list xs) = false := rfl
theorem isC_nt : isCst .non (.tuple xs) = false := rfl
theorem isC_nd (kv : List (PyData × PyData)) : isCst .non (.dict kv) = false := rfl
theorem isC_bb : isCst (.bl p) (.bool q) = (q == p) := rfl
theorem isC_bi : isCst (.bl p) (.int i) = false := rfl
theorem isC_bn : isCst (.bl p) .none = false := rfl
theorem isC_bs : isCst (.bl p) (.str x) = false := rfl
theorem isC_bl : isCst (.bl p) (.list xs) = false := rfl
theorem isC_bt : isCst (.bl p) (.tuple xs) = false := rfl
theorem isC_bd (kv : List (PyData × PyData)) : isCst (.bl p) (.dict kv) = false := rfl
theorem idxS_list : idxS (.list xs) (.int i) = (atI xs i).map R.d := rfl
theorem idxS_tuple : idxS (.tuple xs) (.int i) = (atI xs i).map R.d := rfl
theorem slcS_list (lo hi : Option Int) : slcS (.list xs) lo hi = some (.nw (cutD xs lo hi)) := rfl
theorem slcS_tuple (lo hi : Option Int) : slcS (.tuple xs) lo hi = some (.d (.tuple (cutD xs lo hi))) := rfl
theorem bis_len : biS .len = lenS := rfl
theorem bis_list : biS .list = listS := rfl
theorem bis_tuple : biS .tuple = tupleS := rfl
theorem bis_sum : biS .sum = sumS := rfl
theorem bis_max : biS .max = mmS max := rfl
theorem bis_min : biS .min = mmS min := rfl
theorem bis_sorted : biS .sorted = sortS := rfl
theorem bis_all : biS .all = allS := rfl
theorem bis_any : biS .any = anyS := rfl
theorem bis_abs : biS .abs = absS := rfl
theorem bis_int : biS .int = intS := rfl
theorem bis_str : biS .str = strS := rfl
theorem bis_repr : biS .repr = reprS := rfl
theorem lenS_list : lenS [.list xs] = some (.d (.int xs.length)) := rfl
theorem lenS_tuple : lenS [.tuple xs] = some (.d (.int xs.length)) := rfl
theorem listS_list : listS [.list xs] = some (.nw xs) := rfl
theorem listS_tuple : listS [.tuple xs] = some (.nw xs) := rfl
theorem tupleS_list : tupleS [.list xs] = some (.d (.tuple xs)) := rfl
theorem tupleS_tuple : tupleS [.tuple xs] = some (.d (.tuple xs)) := rfl
theorem sumS_list : sumS [.list xs] = (intsD xs).map fun ns => .d (.int ns.sum) := rfl
theorem sortS_list : sortS [.list xs] = (intsD xs).map fun ns => .nw ((ns.mergeSort).map PyData.int) := rfl
theorem allS_list : allS [.list xs] = (blsD xs).map fun bs => .d (.bool (bs.all id)) := rfl
theorem anyS_list : anyS [.list xs] = (blsD xs).map fun bs => .d (.bool (bs.any id)) := rfl
theorem mmS_ii (f : Int → Int → Int) : mmS f [.int i, .int j] = some (.d (.int (f i j))) := rfl
theorem intS_int : intS [.int i] = some (.d (.int i)) := rfl
theorem absS_int : absS [.int i] = some (.d (.int (if i < 0 then -i else i))) := rfl
theorem strS_int : strS [.int i] = ifc (decide (i.natAbs.log2 < 1920)) (.d (.str (toString i))) := rfl
theorem reprS_G : reprS [a] = ifc (a.showable && decide (a.shown.length ≤ sizeLine) && decide (a.depth ≤ 50)) (.d (.str a.shown)) := rfl
end

/-! ### the calculus: an expression at a state, and what is asked behind it -/
def wE (f : MU) (z : Z) (Q : U → Z → Prop) : Prop := wR (f z) fun p => Q p.1 p.2
def wL (f : ML) (z : Z) (Q : List U → Z → Prop) : Prop := wR (f z) fun p => Q p.1 p.2
def wI (f : MI) (z : Z) (Q : List PyData → List Nat → Z → Prop) : Prop := wR (f z) fun p => Q p.1 p.2.1 p.2.2
def wS (f : MS) (z : Z) (Q : Fl → Prop) : Prop := wR (f z) Q
def wEc (z : Z) (u : U) (Q : PyData → Z → Prop) : Prop := wR (esc z u) fun p => Q p.1 p.2
def wEs (z : Z) (us : List U) (Q : List PyData → Z → Prop) : Prop := wR (escs z us) fun p => Q p.1 p.2
def wA (z : Z) (us : List U) (Q : List A → Z → Prop) : Prop := wR (argL z us) fun p => Q p.1 p.2
def wAu (z : Z) (u : U) (Q : A → Z → Prop) : Prop := wR (argU z u) fun p => Q p.1 p.2
def wRs (z : Z) (u : U) (Q : R → Z → Prop) : Prop := wR (resU z u) fun p => Q p.1 p.2
def wRL (z : Z) (us : List U) (Q : List R → Z → Prop) : Prop := wR (resL z us) fun p => Q p.1 p.2
def wT (t : Tg) (d : PyData) (z : Z) (Q : Z → Prop) : Prop := wR (bindT t d z) Q
def wTs (t : Tgs) (ds : List PyData) (z : Z) (Q : Z → Prop) : Prop := wR (bindTs t ds z) Q
def varK (Q : U → Z → Prop) (i : Nat) (z : Z) : Option Sl → Prop
  | some (.val x) => Q (.d x) z
  | some (.own _) => Q (.loc i) z
  | some (.lck _) => Q (.loc i) z
  | some .bag => Q .bag z
  | _ => False
def escK (Q : PyData → Z → Prop) (i : Nat) (z : Z) : Option Sl → Prop
  | some (.own xs) => Q (.list xs) ⟨z.r.set i (.val (.list xs)), z.b⟩
  | some (.val x) => Q x z
  | _ => False
def wR2 {α β : Type} (o : Option α) (o' : Option β) (K : α → β → Prop) : Prop := wR o fun a => wR o' fun b => K a b
def KRu (z : Z) (Q : U → Z → Prop) : R → Prop
  | .d x => Q (.d x) z
  | .nw xs => Q (.nw xs) z
def KB (z : Z) (Q : U → Z → Prop) (b : Bool) : Prop := Q (.d (.bool b)) z
def tmulD : PyData → PyData → Option R
  | .tuple ds, .int k => ifc (decide (-(2 ^ 63) ≤ k) && (decide (k ≤ 1000) && decide (ds.length ≤ 1000))) (.d (.tuple (List.replicate k.toNat ds).flatten))
  | _, _ => none
section
variable (Q : U → Z → Prop) (z : Z) (u v : U) (a b : PyData) (f g h : MU) (xs : List PyData) (us vs : List U) (i : Nat) (t : Bool) (fl fk : ML)
def KEs2 (x : PyData) (Q : List PyData → Z → Prop) (xs : List PyData) (z : Z) : Prop := Q (x :: xs) z
def KEs (us : List U) (Q : List PyData → Z → Prop) (x : PyData) (z : Z) : Prop := wEs z us (KEs2 x Q)
def KTup2 (xs : List PyData) (z : Z) : Prop := xs.length ≤ 16777216 ∧ Q (.d (.tuple xs)) z
def KTup (us : List U) (z : Z) : Prop := wEs z us (KTup2 Q)
def KLst2 (xs : List PyData) (z : Z) : Prop := xs.length ≤ 16777216 ∧ Q (.nw xs) z
def KLst (us : List U) (z : Z) : Prop := wEs z us (KLst2 Q)
def KBin3 (op : Operator) (a b : PyData) : Prop := wR (binS op a b) (KRu z Q)
def KBin2 (op : Operator) (u v : U) (z : Z) : Prop := wR2 (rd z u) (rd z v) (KBin3 Q z op)
def KBin (g : MU) (op : Operator) (u : U) (z : Z) : Prop := wE g z (KBin2 Q op u)
def KTm3 (a b : PyData) : Prop := wR (tmulD a b) (KRu z Q)
def KTm2 (u v : U) (z : Z) : Prop := wR2 (rd z u) (rd z v) (KTm3 Q z)
def KTm (g : MU) (u : U) (z : Z) : Prop := wE g z (KTm2 Q u)
def KCmp3 (op : CmpOp) (a b : PyData) : Prop := wR (cmpS op a b) (KB z Q)
def KCmp2 (op : CmpOp) (u v : U) (z : Z) : Prop := wR2 (rd z u) (rd z v) (KCmp3 Q z op)
def KCmp (g : MU) (op : CmpOp) (u : U) (z : Z) : Prop := wE g z (KCmp2 Q op u)
def KCh4 (op' : CmpOp) (v w : U) (z : Z) : Prop := wR2 (rd z v) (rd z w) (KCmp3 Q z op')
def KCh3 (h : MU) (op' : CmpOp) (v : U) (z : Z) : Bool → Prop
  | true => wE h z (KCh4 Q op' v)
  | false => Q (.d (.bool false)) z
def KCh2b (op : CmpOp) (K : Bool → Prop) (a b : PyData) : Prop := wR (cmpS op a b) K
def KCh2 (h : MU) (op op' : CmpOp) (u v : U) (z : Z) : Prop := wR2 (rd z u) (rd z v) (KCh2b op (KCh3 Q h op' v z))
def KCh (g h : MU) (op op' : CmpOp) (u : U) (z : Z) : Prop := wE g z (KCh2 Q h op op' u)
def KIsc2 (n : Bool) (k : Cst) (d : PyData) : Prop := Q (.d (.bool (if n then !isCst k d else isCst k d))) z
def KIsc (n : Bool) (k : Cst) (u : U) (z : Z) : Prop := wR (rd z u) (KIsc2 Q z n k)
def KNot2 (b : Bool) : Prop := Q (.d (.bool (!b))) z
def KNot (u : U) (z : Z) : Prop := wR (asB u) (KNot2 Q z)
def KNeg3 (k : Int) : Prop := Q (.d (.int (-k))) z
def KNeg2 (d : PyData) : Prop := wR (intD d) (KNeg3 Q z)
def KNeg (u : U) (z : Z) : Prop := wR (rd z u) (KNeg2 Q z)
def KAnd2 (g : MU) (z : Z) : Bool → Prop
  | true => wE g z Q
  | false => Q (.d (.bool false)) z
def KAnd (g : MU) (u : U) (z : Z) : Prop := wR (asB u) (KAnd2 Q g z)
def KOr2 (g : MU) (z : Z) : Bool → Prop
  | true => Q (.d (.bool true)) z
  | false => wE g z Q
def KOr (g : MU) (u : U) (z : Z) : Prop := wR (asB u) (KOr2 Q g z)
def KIte2 (f g : MU) (z : Z) : Bool → Prop
  | true => wE f z Q
  | false => wE g z Q
def KIte (f g : MU) (u : U) (z : Z) : Prop := wR (asB u) (KIte2 Q f g z)
def KIdx3 (a b : PyData) : Prop := wR (idxS a b) (KRu z Q)
def KIdx2 (u v : U) (z : Z) : Prop := wR2 (rd z u) (rd z v) (KIdx3 Q z)
def KIdx (g : MU) (u : U) (z : Z) : Prop := wE g z (KIdx2 Q u)
def KSl0 (d : PyData) : Prop := wR (slcS d none none) (KRu z Q)
def KSlc0 (u : U) (z : Z) : Prop := wR (rd z u) (KSl0 Q z)
def KSl1 (d : PyData) (i : Int) : Prop := wR (slcS d (some i) none) (KRu z Q)
def KSlL3 (a b : PyData) : Prop := wR (intD b) (KSl1 Q z a)
def KSlL2 (u v : U) (z : Z) : Prop := wR2 (rd z u) (rd z v) (KSlL3 Q z)
def KSlL (g : MU) (u : U) (z : Z) : Prop := wE g z (KSlL2 Q u)
def KSh1 (d : PyData) (i : Int) : Prop := wR (slcS d none (some i)) (KRu z Q)
def KSlH3 (a b : PyData) : Prop := wR (intD b) (KSh1 Q z a)
def KSlH2 (u v : U) (z : Z) : Prop := wR2 (rd z u) (rd z v) (KSlH3 Q z)
def KSlH (g : MU) (u : U) (z : Z) : Prop := wE g z (KSlH2 Q u)
def KSb5 (d : PyData) (i j : Int) : Prop := wR (slcS d (some i) (some j)) (KRu z Q)
def KSb4 (i : Int) (a b : PyData) : Prop := wR (intD b) (KSb5 Q z a i)
def KSb3 (u : U) (i : Int) (v : U) (z : Z) : Prop := wR2 (rd z u) (rd z v) (KSb4 Q z i)
def KSb2 (h : MU) (u : U) (z : Z) (i : Int) : Prop := wE h z (KSb3 Q u i)
def KSb1 (h : MU) (u : U) (z : Z) (b : PyData) : Prop := wR (intD b) (KSb2 Q h u z)
def KSlB2 (h : MU) (u v : U) (z : Z) : Prop := wR (rd z v) (KSb1 Q h u z)
def KSlB (g h : MU) (u : U) (z : Z) : Prop := wE g z (KSlB2 Q h u)
def KBi2 (k : Bi) (ds : List PyData) : Prop := wR (biS k ds) (KRu z Q)
def KBi (k : Bi) (us : List U) (z : Z) : Prop := wR (rds z us) (KBi2 Q z k)
def KIsi2 (t : Ty) (d : PyData) : Prop := Q (.d (.bool (isiD t d))) z
def KIsi (t : Ty) (u : U) (z : Z) : Prop := wR (rd z u) (KIsi2 Q z t)
def KLrg3 (n : Int) : Prop := okRg 0 n = true ∧ Q (.nw (rgD 0 n)) z
def KLrg2 (d : PyData) : Prop := wR (intD d) (KLrg3 Q z)
def KLrg (u : U) (z : Z) : Prop := wR (rd z u) (KLrg2 Q z)
def KLrv3 (ds : List PyData) : Prop := Q (.nw ds.reverse) z
def KLrv2 (d : PyData) : Prop := wR (lstD d) (KLrv3 Q z)
def KLrv (u : U) (z : Z) : Prop := wR (rd z u) (KLrv2 Q z)
def KLst5 (ns : List Int) : Prop := ns.length ≤ 4000 ∧ Q (.d (.int (dst ns))) z
def KLst4 (ds : List PyData) : Prop := wR (intsD ds) (KLst5 Q z)
def KLset2 (d : PyData) : Prop := wR (lstD d) (KLst4 Q z)
def KLset (u : U) (z : Z) : Prop := wR (rd z u) (KLset2 Q z)
def KLdi5 (ns : List Int) : Prop := Q (.d (.int (dst ns))) z
def KLdi4 (ds : List PyData) : Prop := wR (keysI ds) (KLdi5 Q z)
def KLdi2 (d : PyData) : Prop := wR (lstD d) (KLdi4 Q z)
def KLdi (u : U) (z : Z) : Prop := wR (rd z u) (KLdi2 Q z)
def KApp3 (i : Nat) (x : PyData) (xs : List PyData) : Prop := xs.length < 16777216 ∧ Q (.d .none) ⟨z.r.set i (.own (xs ++ [x])), z.b⟩
def KApp2 (i : Nat) (x : PyData) (z : Z) : Prop := wR (ownS z.r[i]?) (KApp3 Q z i x)
def KApp1 (i : Nat) (u : U) (z : Z) : Prop := wEc z u (KApp2 Q i)
def KApp (g : MU) (i : Nat) (_ : List PyData) : Prop := wE g z (KApp1 Q i)
def KExt4 (i : Nat) (ds xs : List PyData) : Prop := xs.length + ds.length ≤ 16777216 ∧ Q (.d .none) ⟨z.r.set i (.own (xs ++ ds)), z.b⟩
def KExt3 (i : Nat) (ds : List PyData) : Prop := wR (ownS z.r[i]?) (KExt4 Q z i ds)
def KExt2 (i : Nat) (d : PyData) : Prop := wR (lstD d) (KExt3 Q z i)
def KExt1 (i : Nat) (u : U) (z : Z) : Prop := wR (rd z u) (KExt2 Q z i)
def KExt (g : MU) (i : Nat) (_ : List PyData) : Prop := wE g z (KExt1 Q i)
def KPop2 (i : Nat) (xs : List PyData) (d : PyData) : Prop := Q (.d d) ⟨z.r.set i (.own xs.dropLast), z.b⟩
def KPop (i : Nat) (xs : List PyData) : Prop := wR xs[xs.length - 1]? (KPop2 Q z i xs)
def KPa6 (i : Nat) (k : Int) (xs : List PyData) (j : Nat) (y : PyData) : Prop := (decide (-(2 ^ 63) ≤ k) && decide (k < 2 ^ 63)) = true ∧ Q (.d y) ⟨z.r.set i (.own (xs.eraseIdx j)), z.b⟩
def KPa5 (i : Nat) (k : Int) (xs : List PyData) (j : Nat) : Prop := wR xs[j]? (KPa6 Q z i k xs j)
def KPa4 (i : Nat) (k : Int) (xs : List PyData) : Prop := wR (ixN xs.length k) (KPa5 Q z i k xs)
def KPa3 (i : Nat) (k : Int) : Prop := wR (ownS z.r[i]?) (KPa4 Q z i k)
def KPa2 (i : Nat) (d : PyData) : Prop := wR (intD d) (KPa3 Q z i)
def KPa1 (i : Nat) (u : U) (z : Z) : Prop := wR (rd z u) (KPa2 Q z i)
def KPa (g : MU) (i : Nat) (_ : List PyData) : Prop := wE g z (KPa1 Q i)
def KCn6 (k : Int) (ns : List Int) : Prop := Q (.d (.int (ns.count k : Nat))) z
def KCn5 (k : Int) (ds : List PyData) : Prop := wR (intsD ds) (KCn6 Q z k)
def KCn4 (d1 : PyData) (k : Int) : Prop := wR (lstD d1) (KCn5 Q z k)
def KCn3 (d1 d2 : PyData) : Prop := wR (intD d2) (KCn4 Q z d1)
def KCn2 (u v : U) (z : Z) : Prop := wR2 (rd z u) (rd z v) (KCn3 Q z)
def KCn1 (g : MU) (u : U) (z : Z) (_ : List PyData) : Prop := wE g z (KCn2 Q u)
def KCn0 (g : MU) (u : U) (z : Z) (d0 : PyData) : Prop := wR (lstD d0) (KCn1 Q g u z)
def KCn (g : MU) (u : U) (z : Z) : Prop := wR (rd z u) (KCn0 Q g u z)
def KCa4 (r : List Sl) : R × Bg → Prop
  | (.d x, b) => Q (.d x) ⟨r, b⟩
  | (.nw xs, b) => Q (.nw xs) ⟨r, b⟩
def KCa3 (f : List A → Bg → Option (R × Bg)) (as : List A) (z : Z) : Prop := wR (f as z.b) (KCa4 Q z.r)
def KCa2 (f : List A → Bg → Option (R × Bg)) (us vs : List U) (z : Z) : Prop := wA z (us ++ vs) (KCa3 Q f)
def KCa (k : ML) (f : List A → Bg → Option (R × Bg)) (us : List U) (z : Z) : Prop := wL k z (KCa2 Q f us)
def KAl2 (x : A) (Q : List A → Z → Prop) (xs : List A) (z : Z) : Prop := Q (x :: xs) z
def KAl (us : List U) (Q : List A → Z → Prop) (x : A) (z : Z) : Prop := wA z us (KAl2 x Q)
def KAd (Q : A → Z → Prop) (x : PyData) (z : Z) : Prop := Q (.d x) z
def KLc2 (u : U) (Q : List U → Z → Prop) (us : List U) (z : Z) : Prop := Q (u :: us) z
def KLc (r : ML) (Q : List U → Z → Prop) (u : U) (z : Z) : Prop := wL r z (KLc2 u Q)
def KBn (t : Bool) : Prop := Q (.d (.bool t)) z
def KBp (k : Int) : Prop := Q (.d (.int k)) ⟨z.r, ⟨z.b.cells.dropLast, z.b.cur, z.b.mix⟩⟩
end

section
variable (Q : U → Z → Prop) (z : Z) (f g h : MU) (op : CmpOp) (v : U)
theorem x_cht : KCh3 Q h op v z true = wE h z (KCh4 Q op v) := rfl
theorem x_chf : KCh3 Q h op v z false = Q (.d (.bool false)) z := rfl
theorem x_andt : KAnd2 Q g z true = wE g z Q := rfl
theorem x_andf : KAnd2 Q g z false = Q (.d (.bool false)) z := rfl
theorem x_ort : KOr2 Q g z true = Q (.d (.bool true)) z := rfl
theorem x_orf : KOr2 Q g z false = wE g z Q := rfl
theorem x_itt : KIte2 Q f g z true = wE f z Q := rfl
theorem x_itf : KIte2 Q f g z false = wE g z Q := rfl
end
section
variable (Q : U → Z → Prop) (cl : Cl) (z : Z) (a b c : Ex) (es ks : Exs) (i : Nat) (u v : U) (us vs : List U)
theorem w2 {α β : Type} (x : α) (y : β) (K : α → β → Prop) : wR2 (some x) (some y) K = K x y := by unfold wR2; rw [wR_some, wR_some]
theorem varK_val (x : PyData) : varK Q i z (some (.val x)) = Q (.d x) z := rfl
theorem varK_own (xs : List PyData) : varK Q i z (some (.own xs)) = Q (.loc i) z := rfl
theorem varK_lck (xs : List PyData) : varK Q i z (some (.lck xs)) = Q (.loc i) z := rfl
theorem varK_bag : varK Q i z (some .bag) = Q .bag z := rfl
theorem escK_val (Q : PyData → Z → Prop) (x : PyData) : escK Q i z (some (.val x)) = Q x z := rfl
theorem escK_own (Q : PyData → Z → Prop) (xs : List PyData) : escK Q i z (some (.own xs)) = Q (.list xs) ⟨z.r.set i (.val (.list xs)), z.b⟩ := rfl
theorem wEc_d (Q : PyData → Z → Prop) (x : PyData) : wEc z (.d x) Q = Q x z := wR_some _ _
theorem wEc_nw (Q : PyData → Z → Prop) (xs : List PyData) : wEc z (.nw xs) Q = Q (.list xs) z := wR_some _ _
theorem wEc_loc (Q : PyData → Z → Prop) : wEc z (.loc i) Q = escK Q i z z.r[i]? := by
  unfold wEc escK
  rw [esc_loc]
  unfold escL
  cases z.r[i]? with
  | none => exact wR_none _
  | some s => cases s <;> first | exact wR_some _ _ | exact wR_none _
theorem wEs_nil (Q : List PyData → Z → Prop) : wEs z [] Q = Q [] z := wR_some _ _
theorem wEs_cons (Q : List PyData → Z → Prop) : wEs z (u :: us) Q = wEc z u (KEs us Q) := by
  unfold wEs wEc; rw [escs_cons, wR_bind]; simp only [wR_bind, wR_some]; rfl
theorem wA_nil (Q : List A → Z → Prop) : wA z [] Q = Q [] z := wR_some _ _
theorem wA_cons (Q : List A → Z → Prop) : wA z (u :: us) Q = wAu z u (KAl us Q) := by
  unfold wA wAu; rw [argL_cons, wR_bind]; simp only [wR_bind, wR_some]; rfl
theorem wAu_bag (Q : A → Z → Prop) : wAu z .bag Q = Q .bag z := wR_some _ _
theorem wAu_d (Q : A → Z → Prop) (x : PyData) : wAu z (.d x) Q = Q (.d x) z := wR_some _ _
theorem wAu_nw (Q : A → Z → Prop) (xs : List PyData) : wAu z (.nw xs) Q = Q (.d (.list xs)) z := wR_some _ _
theorem wAu_loc (Q : A → Z → Prop) : wAu z (.loc i) Q = escK (KAd Q) i z z.r[i]? := by
  rw [← wEc_loc]; unfold wAu wEc; rw [argU_loc, ← esc_loc, wR_bind]; simp only [wR_some]; rfl
theorem wRs_d (Q : R → Z → Prop) (x : PyData) : wRs z (.d x) Q = Q (.d x) z := wR_some _ _
theorem wRs_nw (Q : R → Z → Prop) (xs : List PyData) : wRs z (.nw xs) Q = Q (.nw xs) z := wR_some _ _
def KRd (Q : R → Z → Prop) (x : PyData) (z : Z) : Prop := Q (.d x) z
theorem wRs_loc (Q : R → Z → Prop) : wRs z (.loc i) Q = escK (KRd Q) i z z.r[i]? := by
  rw [← wEc_loc]; unfold wRs wEc; rw [resU_loc, ← esc_loc, wR_bind]; simp only [wR_some]; rfl
theorem wRL_nil (Q : List R → Z → Prop) : wRL z [] Q = Q [] z := wR_some _ _
def KRl2 (x : R) (Q : List R → Z → Prop) (xs : List R) (z : Z) : Prop := Q (x :: xs) z
def KRl (us : List U) (Q : List R → Z → Prop) (x : R) (z : Z) : Prop := wRL z us (KRl2 x Q)
theorem wRL_cons (Q : List R → Z → Prop) : wRL z (u :: us) Q = wRs z u (KRl us Q) := by
  unfold wRL wRs; rw [resL_cons, wR_bind]; simp only [wR_bind, wR_some]; rfl
theorem w_var : wE (evE cl (.var i)) z Q = varK Q i z z.r[i]? := by
  unfold wE varK
  rw [show evE cl (.var i) z = varU i z z.r[i]? from by
    show (match z.r[i]? with | some (.val x) => some (U.d x, z) | some (.own _) => some (.loc i, z) | some (.lck _) => some (.loc i, z) | some .bag => some (.bag, z) | _ => none) = _
    unfold varU; rfl]
  unfold varU
  cases z.r[i]? with
  | none => exact wR_none _
  | some s => cases s <;> first | exact wR_some _ _ | exact wR_none _
theorem w_glob (x : Str) (k : Int) : wE (evE cl (.glob x k)) z Q = Q (.d (.int k)) z := wR_some _ _
theorem w_cst (d : PyData) : wE (evE cl (.cst d)) z Q = Q (.d d) z := wR_some _ _
theorem ifc_dec {α : Type} (p : Prop) [Decidable p] (x : α) (Q : α → Prop) : wR (ifc (decide p) x) Q = (p ∧ Q x) := by rw [wR_ifc, decide_eq_true_eq]
theorem w_tup : wE (evE cl (.tup es)) z Q = wL (evL cl es) z (KTup Q) := by
  unfold wE wL; rw [show evE cl (.tup es) z = (evL cl es z).bind fun p => (escs p.2 p.1).bind fun q => (ifc (decide (q.1.length ≤ sizeLine)) (U.d (.tuple q.1), q.2)) from rfl]
  simp only [wR_bind, ifc_dec]; rfl
theorem w_lst : wE (evE cl (.lst es)) z Q = wL (evL cl es) z (KLst Q) := by
  unfold wE wL; rw [show evE cl (.lst es) z = (evL cl es z).bind fun p => (escs p.2 p.1).bind fun q => (ifc (decide (q.1.length ≤ sizeLine)) (U.nw q.1, q.2)) from rfl]
  simp only [wR_bind, ifc_dec]; rfl
theorem KRu_eq (w : R) : KRu z Q w = Q w.u z := by cases w <;> rfl
theorem KRu_f : (fun w : R => Q w.u z) = KRu z Q := by funext w; exact (KRu_eq Q z w).symm
theorem w_bin (op : Operator) : wE (evE cl (.bin op a b)) z Q = wE (evE cl a) z (KBin Q (evE cl b) op) := by
  show wR ((evE cl a z).bind fun p => (evE cl b p.2).bind fun q => (rd q.2 p.1).bind fun d1 => (rd q.2 q.1).bind fun d2 => (binS op d1 d2).bind fun w => some (w.u, q.2)) _ = _
  simp only [wR_bind, wR_some, KRu_f]; rfl
theorem w_cmp (op : CmpOp) : wE (evE cl (.cmp op a b)) z Q = wE (evE cl a) z (KCmp Q (evE cl b) op) := by
  show wR ((evE cl a z).bind fun p => (evE cl b p.2).bind fun q => (rd q.2 p.1).bind fun d1 => (rd q.2 q.1).bind fun d2 => (cmpS op d1 d2).bind fun b => some (U.d (.bool b), q.2)) _ = _
  simp only [wR_bind, wR_some]; rfl
theorem w_tmul : wE (evE cl (.tmul a b)) z Q = wE (evE cl a) z (KTm Q (evE cl b)) := by
  show wR (tmulE (evE cl a) (evE cl b) z) _ = _
  have e : tmulE (evE cl a) (evE cl b) z = (evE cl a z).bind fun p => (evE cl b p.2).bind fun q => (rd q.2 p.1).bind fun d1 => (rd q.2 q.1).bind fun d2 => (tmulD d1 d2).bind fun w => some (w.u, q.2) := by
    unfold tmulE
    congr; funext p; congr; funext q; congr; funext d1; congr; funext d2
    cases d2 <;> first
      | (cases d1 <;> rfl)
      | (cases d1 <;> first | rfl | (unfold tmulD intD; show (ifc _ _) = (ifc _ _).bind _; unfold ifc; split <;> rfl))
  rw [e]; simp only [wR_bind, wR_some, KRu_f]; rfl
theorem w_chain (op op' : CmpOp) : wE (evE cl (.chain op op' a b c)) z Q = wE (evE cl a) z (KCh Q (evE cl b) (evE cl c) op op') := by
  show wR ((evE cl a z).bind fun p => (evE cl b p.2).bind fun q => (rd q.2 p.1).bind fun d1 => (rd q.2 q.1).bind fun d2 => (cmpS op d1 d2).bind fun t =>
    if t then (evE cl c q.2).bind fun r => (rd r.2 q.1).bind fun d2 => (rd r.2 r.1).bind fun d3 => (cmpS op' d2 d3).bind fun b => some (U.d (.bool b), r.2) else some (U.d (.bool false), q.2)) _ = _
  simp only [wR_bind]
  unfold wE KCh wE KCh2 wR2
  congr 1; funext p; congr 1; funext q; congr 1; funext d1; congr 1; funext d2
  show _ = wR (cmpS op d1 d2) _
  congr 1; funext t
  cases t with
  | true => simp only [if_true, wR_bind, wR_some]; rfl
  | false => exact wR_some _ _
theorem w_isc (n : Bool) (k : Cst) : wE (evE cl (.isc n k a)) z Q = wE (evE cl a) z (KIsc Q n k) := by
  show wR ((evE cl a z).bind fun p => (rd p.2 p.1).bind fun d => some (U.d (.bool (if n then !isCst k d else isCst k d)), p.2)) _ = _
  simp only [wR_bind, wR_some]; rfl
theorem w_not : wE (evE cl (.not a)) z Q = wE (evE cl a) z (KNot Q) := by
  show wR ((evE cl a z).bind fun p => (asB p.1).bind fun b => some (U.d (.bool (!b)), p.2)) _ = _
  simp only [wR_bind, wR_some]; rfl
theorem w_neg : wE (evE cl (.neg a)) z Q = wE (evE cl a) z (KNeg Q) := by
  show wR ((evE cl a z).bind fun p => (rd p.2 p.1).bind fun d => (intD d).bind fun i => some (U.d (.int (-i)), p.2)) _ = _
  simp only [wR_bind, wR_some]; rfl
theorem w_and1 : wE (evE cl (.and (.cons a .nil))) z Q = wE (evE cl a) z Q := rfl
theorem w_and2 (r : Exs) : wE (evE cl (.and (.cons a (.cons b r)))) z Q = wE (evE cl a) z (KAnd Q (evE cl (.and (.cons b r)))) := by
  show wR ((evE cl a z).bind fun p => (asB p.1).bind fun t => if t then evE cl (.and (.cons b r)) p.2 else some (U.d (.bool false), p.2)) _ = _
  simp only [wR_bind]
  unfold wE KAnd
  congr 1; funext p; congr 1; funext t
  cases t with
  | true => rfl
  | false => exact wR_some _ _
theorem w_or1 : wE (evE cl (.or (.cons a .nil))) z Q = wE (evE cl a) z Q := rfl
theorem w_or2 (r : Exs) : wE (evE cl (.or (.cons a (.cons b r)))) z Q = wE (evE cl a) z (KOr Q (evE cl (.or (.cons b r)))) := by
  show wR ((evE cl a z).bind fun p => (asB p.1).bind fun t => if t then some (U.d (.bool true), p.2) else evE cl (.or (.cons b r)) p.2) _ = _
  simp only [wR_bind]
  unfold wE KOr
  congr 1; funext p; congr 1; funext t
  cases t with
  | false => rfl
  | true => exact wR_some _ _
theorem w_ite : wE (evE cl (.ite c a b)) z Q = wE (evE cl c) z (KIte Q (evE cl a) (evE cl b)) := by
  show wR ((evE cl c z).bind fun p => (asB p.1).bind fun t => if t then evE cl a p.2 else evE cl b p.2) _ = _
  simp only [wR_bind]
  unfold wE KIte
  congr 1; funext p; congr 1; funext t
  cases t <;> rfl
theorem w_idx : wE (evE cl (.idx a b)) z Q = wE (evE cl a) z (KIdx Q (evE cl b)) := by
  show wR ((evE cl a z).bind fun p => (evE cl b p.2).bind fun q => (rd q.2 p.1).bind fun d1 => (rd q.2 q.1).bind fun d2 => (idxS d1 d2).bind fun w => some (w.u, q.2)) _ = _
  simp only [wR_bind, wR_some, KRu_f]; rfl
theorem w_slc0 : wE (evE cl (.slc0 a)) z Q = wE (evE cl a) z (KSlc0 Q) := by
  show wR ((evE cl a z).bind fun p => (rd p.2 p.1).bind fun d => (slcS d none none).bind fun w => some (w.u, p.2)) _ = _
  simp only [wR_bind, wR_some, KRu_f]; rfl
theorem w_slcL : wE (evE cl (.slcL a b)) z Q = wE (evE cl a) z (KSlL Q (evE cl b)) := by
  show wR ((evE cl a z).bind fun p => (evE cl b p.2).bind fun q => (rd q.2 p.1).bind fun d => (rd q.2 q.1).bind fun e => (intD e).bind fun i => (slcS d (some i) none).bind fun w => some (w.u, q.2)) _ = _
  simp only [wR_bind, wR_some, KRu_f]; rfl
theorem w_slcH : wE (evE cl (.slcH a b)) z Q = wE (evE cl a) z (KSlH Q (evE cl b)) := by
  show wR ((evE cl a z).bind fun p => (evE cl b p.2).bind fun q => (rd q.2 p.1).bind fun d => (rd q.2 q.1).bind fun e => (intD e).bind fun i => (slcS d none (some i)).bind fun w => some (w.u, q.2)) _ = _
  simp only [wR_bind, wR_some, KRu_f]; rfl
theorem w_slcLH : wE (evE cl (.slcLH a b c)) z Q = wE (evE cl a) z (KSlB Q (evE cl b) (evE cl c)) := by
  show wR ((evE cl a z).bind fun p => (evE cl b p.2).bind fun q => (rd q.2 q.1).bind fun e => (intD e).bind fun i => (evE cl c q.2).bind fun r => (rd r.2 p.1).bind fun d => (rd r.2 r.1).bind fun e2 => (intD e2).bind fun j => (slcS d (some i) (some j)).bind fun w => some (w.u, r.2)) _ = _
  simp only [wR_bind, wR_some, KRu_f]; rfl
theorem w_bi (k : Bi) : wE (evE cl (.bi k es)) z Q = wL (evL cl es) z (KBi Q k) := by
  show wR ((evL cl es z).bind fun p => (rds p.2 p.1).bind fun ds => (biS k ds).bind fun w => some (w.u, p.2)) _ = _
  simp only [wR_bind, wR_some, KRu_f]; rfl
theorem w_isi (t : Ty) : wE (evE cl (.isi t a)) z Q = wE (evE cl a) z (KIsi Q t) := by
  show wR ((evE cl a z).bind fun p => (rd p.2 p.1).bind fun d => some (U.d (.bool (isiD t d)), p.2)) _ = _
  simp only [wR_bind, wR_some]; rfl
theorem w_lrg1 : wE (evE cl (.lrg1 a)) z Q = wE (evE cl a) z (KLrg Q) := by
  show wR ((evE cl a z).bind fun p => (rd p.2 p.1).bind fun d => (intD d).bind fun n => (ifc (okRg 0 n) (R.nw (rgD 0 n))).bind fun w => some (w.u, p.2)) _ = _
  simp only [wR_bind, wR_some, wR_ifc]; rfl
theorem w_lrev : wE (evE cl (.lrev a)) z Q = wE (evE cl a) z (KLrv Q) := by
  have e : evE cl (.lrev a) z = (evE cl a z).bind fun p => (rd p.2 p.1).bind fun d => (lstD d).bind fun ds => some (U.nw ds.reverse, p.2) := by
    show ((evE cl a z).bind fun p => (rd p.2 p.1).bind fun d => match d with | .list ds => some (U.nw ds.reverse, p.2) | _ => none) = _
    congr; funext p; congr; funext d; cases d <;> rfl
  unfold wE; rw [e]; simp only [wR_bind, wR_some]; rfl
theorem w_lset : wE (evE cl (.lset a)) z Q = wE (evE cl a) z (KLset Q) := by
  have e : evE cl (.lset a) z = (evE cl a z).bind fun p => (rd p.2 p.1).bind fun d => (lstD d).bind fun ds => (intsD ds).bind fun ns => ifc (decide (ns.length ≤ 4000)) (U.d (.int (dst ns)), p.2) := by
    show ((evE cl a z).bind fun p => (rd p.2 p.1).bind fun d => match d with | .list ds => (intsD ds).bind fun ns => ifc (decide (ns.length ≤ 4000)) (U.d (.int (dst ns)), p.2) | _ => none) = _
    congr; funext p; congr; funext d; cases d <;> rfl
  unfold wE; rw [e]; simp only [wR_bind, ifc_dec]; rfl
theorem w_ldict : wE (evE cl (.ldict a)) z Q = wE (evE cl a) z (KLdi Q) := by
  have e : evE cl (.ldict a) z = (evE cl a z).bind fun p => (rd p.2 p.1).bind fun d => (lstD d).bind fun ds => (keysI ds).bind fun ns => some (U.d (.int (dst ns)), p.2) := by
    show ((evE cl a z).bind fun p => (rd p.2 p.1).bind fun d => match d with | .list ds => (keysI ds).bind fun ns => some (U.d (.int (dst ns)), p.2) | _ => none) = _
    congr; funext p; congr; funext d; cases d <;> rfl
  unfold wE; rw [e]; simp only [wR_bind, wR_some]; rfl
theorem w_app : wE (evE cl (.app i a)) z Q = wR (ownS z.r[i]?) (KApp Q z (evE cl a) i) := by
  have e : evE cl (.app i a) z = (ownS z.r[i]?).bind fun _ => (evE cl a z).bind fun p => (esc p.2 p.1).bind fun q => (ownS q.2.r[i]?).bind fun xs => ifc (decide (xs.length < sizeLine)) (U.d .none, ⟨q.2.r.set i (.own (xs ++ [q.1])), q.2.b⟩) := by
    simp only [← ownOf_G]; rfl
  unfold wE; rw [e]; simp only [wR_bind, ifc_dec]; rfl
theorem w_ext : wE (evE cl (.ext i a)) z Q = wR (ownS z.r[i]?) (KExt Q z (evE cl a) i) := by
  have e : evE cl (.ext i a) z = (ownS z.r[i]?).bind fun _ => (evE cl a z).bind fun p => (rd p.2 p.1).bind fun d => (lstD d).bind fun ds => (ownS p.2.r[i]?).bind fun xs => ifc (decide (xs.length + ds.length ≤ sizeLine)) (U.d .none, ⟨p.2.r.set i (.own (xs ++ ds)), p.2.b⟩) := by
    simp only [← ownOf_G]; rfl
  unfold wE; rw [e]; simp only [wR_bind, ifc_dec]; rfl
theorem w_pop : wE (evE cl (.pop i)) z Q = wR (ownS z.r[i]?) (KPop Q z i) := by
  have e : evE cl (.pop i) z = (ownS z.r[i]?).bind fun xs => (xs[xs.length - 1]?).bind fun d => some (U.d d, ⟨z.r.set i (.own xs.dropLast), z.b⟩) := by
    simp only [← ownOf_G]; rfl
  unfold wE; rw [e]; simp only [wR_bind, wR_some]; rfl
theorem w_popAt : wE (evE cl (.popAt i a)) z Q = wR (ownS z.r[i]?) (KPa Q z (evE cl a) i) := by
  have e : evE cl (.popAt i a) z = (ownS z.r[i]?).bind fun _ => (evE cl a z).bind fun p => (rd p.2 p.1).bind fun d => (intD d).bind fun k => (ownS p.2.r[i]?).bind fun xs => (ixN xs.length k).bind fun j => (xs[j]?).bind fun y => ifc (decide (-(2 ^ 63) ≤ k) && decide (k < 2 ^ 63)) (U.d y, ⟨p.2.r.set i (.own (xs.eraseIdx j)), p.2.b⟩) := by
    simp only [← ownOf_G]; rfl
  unfold wE; rw [e]; simp only [wR_bind, wR_ifc]; rfl
theorem w_cnt : wE (evE cl (.cnt a b)) z Q = wE (evE cl a) z (KCn Q (evE cl b)) := by
  show wR ((evE cl a z).bind fun p => (rd p.2 p.1).bind fun d0 => (lstD d0).bind fun _ => (evE cl b p.2).bind fun q => (rd q.2 p.1).bind fun d1 => (rd q.2 q.1).bind fun d2 => (intD d2).bind fun k => (lstD d1).bind fun ds => (intsD ds).bind fun ns => some (U.d (.int (ns.count k : Nat)), q.2)) _ = _
  simp only [wR_bind, wR_some]; rfl
theorem w_comp (it : Itr) (t : Tg) (own : List (Str × Nat)) : wE (evE cl (.comp it t c a own)) z Q = wE (compE (evI cl it) t (evE cl c) (evE cl a) (own.map (·.2))) z Q := rfl
theorem KCa4_f (r : List Sl) : (fun w : R × Bg => Q w.1.u ⟨r, w.2⟩) = KCa4 Q r := by funext ⟨w, b⟩; cases w <;> rfl
theorem w_call (x : Str) : wE (evE cl (.call x es ks)) z Q = wL (evL cl es) z (KCa Q (evL cl ks) (cl x)) := by
  show wR ((evL cl es z).bind fun p => (evL cl ks p.2).bind fun q => (argL q.2 (p.1 ++ q.1)).bind fun w => (cl x w.1 w.2.b).bind fun r => some (r.1.u, Z.mk w.2.r r.2)) _ = _
  simp only [wR_bind, wR_some, KCa4_f]; rfl
theorem w_bix (m : Bool) : wE (evE cl (.bix i m)) z Q = (isBg z.r[i]? = true ∧ Q (.d (.int (z.b.fld m))) z) := by
  rw [← isBag_G]; exact wR_ifc _ _ _
theorem w_bnil : wE (evE cl (.bnil i)) z Q = (isBg z.r[i]? = true ∧ wR (cmpS .Eq (.list (z.b.cells.map PyData.int)) (.list [])) (KBn Q z)) := by
  rw [← isBag_G]
  show wR ((ifc (isBag z i) ()).bind fun _ => (cmpS .Eq (.list (z.b.cells.map PyData.int)) (.list [])).bind fun t => some (U.d (.bool t), z)) _ = _
  simp only [wR_bind, wR_ifc, wR_some]; rfl
theorem w_bpop : wE (evE cl (.bpop i)) z Q = (isBg z.r[i]? = true ∧ wR z.b.cells[z.b.cells.length - 1]? (KBp Q z)) := by
  rw [← isBag_G]
  show wR ((ifc (isBag z i) ()).bind fun _ => (z.b.cells[z.b.cells.length - 1]?).bind fun k => some (U.d (.int k), Z.mk z.r ⟨z.b.cells.dropLast, z.b.cur, z.b.mix⟩)) _ = _
  simp only [wR_bind, wR_ifc, wR_some]; rfl
theorem w_dict0 : wE (evE cl .dict0) z Q = Q (.d (.dict [])) z := wR_some _ _
theorem w_dict1 (k : Str) (j : Int) : wE (evE cl (.dict1 k j)) z Q = Q (.d (.dict [(.str k, .list [.int j])])) z := wR_some _ _
theorem wl_nil (Q : List U → Z → Prop) : wL (evL cl .nil) z Q = Q [] z := wR_some _ _
theorem wl_cons (Q : List U → Z → Prop) : wL (evL cl (.cons a es)) z Q = wE (evE cl a) z (KLc (evL cl es) Q) := by
  show wR ((evE cl a z).bind fun p => (evL cl es p.2).bind fun q => some (p.1 :: q.1, q.2)) _ = _
  simp only [wR_bind, wR_some]; rfl
end
section
variable (Q : List PyData → List Nat → Z → Prop) (cl : Cl) (z : Z) (a b : Ex)
def KIv3 (u : U) (z : Z) (ds : List PyData) : Prop := Q ds (lkOf u) z
def KIv2 (u : U) (z : Z) (d : PyData) : Prop := wR (seqD d) (KIv3 Q u z)
def KIv (u : U) (z : Z) : Prop := wR (rd z u) (KIv2 Q u z)
theorem wi_val : wI (evI cl (.val a)) z Q = wE (evE cl a) z (KIv Q) := by
  show wR ((evE cl a z).bind fun p => (rd p.2 p.1).bind fun d => (seqD d).bind fun ds => some (ds, lkOf p.1, p.2)) _ = _
  simp only [wR_bind, wR_some]; rfl
def KIr3 (z : Z) (n : Int) : Prop := okI n = true ∧ Q (rgD 0 n) [] z
def KIr2 (z : Z) (d : PyData) : Prop := wR (intD d) (KIr3 Q z)
def KIr (u : U) (z : Z) : Prop := wR (rd z u) (KIr2 Q z)
theorem wi_rg1 : wI (evI cl (.rg1 a)) z Q = wE (evE cl a) z (KIr Q) := by
  show wR ((evE cl a z).bind fun p => (rd p.2 p.1).bind fun d => (intD d).bind fun n => ifc (okI n) (rgD 0 n, [], p.2)) _ = _
  simp only [wR_bind, wR_ifc]; rfl
def KIq4 (z : Z) (m n : Int) : Prop := (okI m && okI n) = true ∧ Q (rgD m n) [] z
def KIq3 (z : Z) (d e : PyData) : Prop := wR2 (intD d) (intD e) (KIq4 Q z)
def KIq2 (u v : U) (z : Z) : Prop := wR2 (rd z u) (rd z v) (KIq3 Q z)
def KIq (g : MU) (u : U) (z : Z) : Prop := wE g z (KIq2 Q u)
theorem wi_rg2 : wI (evI cl (.rg2 a b)) z Q = wE (evE cl a) z (KIq Q (evE cl b)) := by
  show wR ((evE cl a z).bind fun p => (evE cl b p.2).bind fun q => (rd q.2 p.1).bind fun d => (rd q.2 q.1).bind fun e => (intD d).bind fun m => (intD e).bind fun n => ifc (okI m && okI n) (rgD m n, [], q.2)) _ = _
  simp only [wR_bind, wR_ifc]; rfl
def KIe3 (u : U) (z : Z) (ds : List PyData) : Prop := Q (enumD ds) (lkOf u) z
def KIe2 (u : U) (z : Z) (d : PyData) : Prop := wR (seqD d) (KIe3 Q u z)
def KIe (u : U) (z : Z) : Prop := wR (rd z u) (KIe2 Q u z)
theorem wi_enum : wI (evI cl (.enum a)) z Q = wE (evE cl a) z (KIe Q) := by
  show wR ((evE cl a z).bind fun p => (rd p.2 p.1).bind fun d => (seqD d).bind fun ds => some (enumD ds, lkOf p.1, p.2)) _ = _
  simp only [wR_bind, wR_some]; rfl
def KIz4 (u v : U) (z : Z) (ds es : List PyData) : Prop := Q (zipD ds es) (lkOf u ++ lkOf v) z
def KIz3 (u v : U) (z : Z) (d e : PyData) : Prop := wR2 (seqD d) (seqD e) (KIz4 Q u v z)
def KIz2 (u v : U) (z : Z) : Prop := wR2 (rd z u) (rd z v) (KIz3 Q u v z)
def KIz (g : MU) (u : U) (z : Z) : Prop := wE g z (KIz2 Q u)
theorem wi_zip : wI (evI cl (.zip a b)) z Q = wE (evE cl a) z (KIz Q (evE cl b)) := by
  show wR ((evE cl a z).bind fun p => (evE cl b p.2).bind fun q => (rd q.2 p.1).bind fun d => (rd q.2 q.1).bind fun e => (seqD d).bind fun ds => (seqD e).bind fun es => some (zipD ds es, lkOf p.1 ++ lkOf q.1, q.2)) _ = _
  simp only [wR_bind, wR_some]; rfl
def KIw3 (u : U) (z : Z) (ds : List PyData) : Prop := Q ds.reverse (lkOf u) z
def KIw2 (u : U) (z : Z) (d : PyData) : Prop := wR (seqD d) (KIw3 Q u z)
def KIw (u : U) (z : Z) : Prop := wR (rd z u) (KIw2 Q u z)
theorem wi_rev : wI (evI cl (.rev a)) z Q = wE (evE cl a) z (KIw Q) := by
  show wR ((evE cl a z).bind fun p => (rd p.2 p.1).bind fun d => (seqD d).bind fun ds => some (ds.reverse, lkOf p.1, p.2)) _ = _
  simp only [wR_bind, wR_some]; rfl
end
/-! ### statements -/
section
variable (Q : Fl → Prop) (cl : Cl) (z : Z) (a b c : Ex) (s s' : Sms) (i : Nat)
def KSeq (m : MS) : Fl → Prop
  | .nx z => wS m z Q
  | .bk z => Q (.bk z)
  | .ct z => Q (.ct z)
  | .rt r b => Q (.rt r b)
theorem x_sqn (m : MS) : KSeq Q m (.nx z) = wS m z Q := rfl
theorem x_sqb (m : MS) : KSeq Q m (.bk z) = Q (.bk z) := rfl
theorem x_sqc (m : MS) : KSeq Q m (.ct z) = Q (.ct z) := rfl
theorem x_sqr (m : MS) (r : R) (b : Bg) : KSeq Q m (.rt r b) = Q (.rt r b) := rfl
theorem ws_nil : wS (evSs cl .nil) z Q = Q (.nx z) := wR_some _ _
theorem ws_cons (t : Sm) : wS (evSs cl (.cons t s)) z Q = wS (evS cl t) z (KSeq Q (evSs cl s)) := by
  show wR ((evS cl t z).bind fun
    | .nx z' => evSs cl s z'
    | f => some f) Q = _
  rw [wR_bind]
  unfold wS
  congr 1
  funext f
  cases f <;> first | rfl | exact wR_some _ _
theorem ws_skip : wS (evS cl .skip) z Q = Q (.nx z) := wR_some _ _
theorem ws_brk : wS (evS cl .brk) z Q = Q (.bk z) := wR_some _ _
theorem ws_cnt : wS (evS cl .cnt) z Q = Q (.ct z) := wR_some _ _
def KExp (_ : U) (z : Z) : Prop := Q (.nx z)
theorem ws_expr : wS (evS cl (.expr a)) z Q = wE (evE cl a) z (KExp Q) := by
  show wR ((evE cl a z).bind fun p => some (Fl.nx p.2)) _ = _
  simp only [wR_bind, wR_some]; rfl
def KPar4 (z : Z) : Prop := Q (.nx z)
def KPar3 (is : List Nat) (ws : List R) (z : Z) : Prop := wR (stoL z is ws) (KPar4 Q)
def KPar (is : List Nat) (us : List U) (z : Z) : Prop := wRL z us (KPar3 Q is)
theorem ws_par (is : List Nat) (es : Exs) : wS (evS cl (.par is es)) z Q = wL (evL cl es) z (KPar Q is) := by
  show wR ((evL cl es z).bind fun p => (resL p.2 p.1).bind fun q => (stoL q.2 is q.1).bind fun z' => some (Fl.nx z')) _ = _
  simp only [wR_bind, wR_some]; rfl
def KSet3 (i : Nat) : R → Z → Prop
  | .d x, z => canS z.r[i]? = true ∧ Q (.nx ⟨z.r.set i (.val x), z.b⟩)
  | .nw xs, z => canS z.r[i]? = true ∧ Q (.nx ⟨z.r.set i (.own xs), z.b⟩)
def KSet (i : Nat) (u : U) (z : Z) : Prop := wRs z u (KSet3 Q i)
theorem ws_set : wS (evS cl (.set i a)) z Q = wE (evE cl a) z (KSet Q i) := by
  have e : evS cl (.set i a) z = (evE cl a z).bind fun p => (resU p.2 p.1).bind fun q => (stoR q.2 i q.1).bind fun z' => some (Fl.nx z') := by
    show (((evE cl a z).bind fun p => (some ([], p.2)).bind fun q => some (p.1 :: q.1, q.2)).bind fun p => (resL p.2 p.1).bind fun q => (stoL q.2 [i] q.1).bind fun z' => some (Fl.nx z')) = _
    cases evE cl a z with
    | none => rfl
    | some p =>
      show ((resU p.2 p.1).bind fun q => (some ([], q.2)).bind fun w => some (q.1 :: w.1, w.2)).bind (fun q => (stoL q.2 [i] q.1).bind fun z' => some (Fl.nx z')) = (resU p.2 p.1).bind _
      cases resU p.2 p.1 with
      | none => rfl
      | some q =>
        show ((stoR q.2 i q.1).bind fun z1 => some z1).bind _ = (stoR q.2 i q.1).bind _
        cases stoR q.2 i q.1 <;> rfl
  unfold wS; rw [e]; simp only [wR_bind, wR_some]
  unfold wE KSet wRs
  congr 1; funext p; congr 1; funext ⟨w, z'⟩
  cases w with
  | d x => rw [stoR_d, wR_ifc]; rfl
  | nw xs => rw [stoR_nw, wR_ifc]; rfl
def KIx6 (i : Nat) (z : Z) (x : PyData) (xs : List PyData) (j : Nat) : Prop := Q (.nx ⟨z.r.set i (.own (xs.set j x)), z.b⟩)
def KIx5 (i : Nat) (k : Int) (x : PyData) (z : Z) (xs : List PyData) : Prop := wR (ixN xs.length k) (KIx6 Q i z x xs)
def KIx4 (i : Nat) (k : Int) (x : PyData) (z : Z) : Prop := wR (ownS z.r[i]?) (KIx5 Q i k x z)
def KIx3 (i : Nat) (u : U) (z : Z) (k : Int) : Prop := wEc z u (KIx4 Q i k)
def KIx2 (i : Nat) (u : U) (z : Z) (d : PyData) : Prop := wR (intD d) (KIx3 Q i u z)
def KIx1 (i : Nat) (u v : U) (z : Z) : Prop := wR (rd z v) (KIx2 Q i u z)
def KIx0 (g : MU) (i : Nat) (u : U) (z : Z) (_ : List PyData) : Prop := wE g z (KIx1 Q i u)
def KIx (g : MU) (i : Nat) (u : U) (z : Z) : Prop := wR (ownS z.r[i]?) (KIx0 Q g i u z)
theorem ws_setIx : wS (evS cl (.setIx i a b)) z Q = wE (evE cl a) z (KIx Q (evE cl b) i) := by
  have e : evS cl (.setIx i a b) z = (evE cl a z).bind fun p => (ownS p.2.r[i]?).bind fun _ => (evE cl b p.2).bind fun w => (rd w.2 w.1).bind fun d => (intD d).bind fun k => (esc w.2 p.1).bind fun q => (ownS q.2.r[i]?).bind fun xs => (ixN xs.length k).bind fun j =>
      some (Fl.nx ⟨q.2.r.set i (.own (xs.set j q.1)), q.2.b⟩) := by
    simp only [← ownOf_G]; rfl
  unfold wS; rw [e]; simp only [wR_bind, wR_some]; rfl
def KBs3 (i : Nat) (m : Bool) (z : Z) (k : Int) : Prop := isBg z.r[i]? = true ∧ Q (.nx ⟨z.r, z.b.put m k⟩)
def KBs2 (i : Nat) (m : Bool) (z : Z) (d : PyData) : Prop := wR (intD d) (KBs3 Q i m z)
def KBs (i : Nat) (m : Bool) (u : U) (z : Z) : Prop := wR (rd z u) (KBs2 Q i m z)
theorem ws_bset (m : Bool) : wS (evS cl (.bset i m a)) z Q = wE (evE cl a) z (KBs Q i m) := by
  have e : evS cl (.bset i m a) z = (evE cl a z).bind fun p => (rd p.2 p.1).bind fun d => (intD d).bind fun k => ifc (isBg p.2.r[i]?) (.nx ⟨p.2.r, p.2.b.put m k⟩) := by
    simp only [← isBag_G]; rfl
  unfold wS; rw [e]; simp only [wR_bind, wR_ifc]; rfl
def KCo2 (m m' : MS) (z : Z) : Bool → Prop
  | true => wS m z Q
  | false => wS m' z Q
theorem x_cot (m m' : MS) : KCo2 Q m m' z true = wS m z Q := rfl
theorem x_cof (m m' : MS) : KCo2 Q m m' z false = wS m' z Q := rfl
def KCo (m m' : MS) (u : U) (z : Z) : Prop := wR (asB u) (KCo2 Q m m' z)
theorem ws_cond : wS (evS cl (.cond c s s')) z Q = wE (evE cl c) z (KCo Q (evSs cl s) (evSs cl s')) := by
  show wR ((evE cl c z).bind fun p => (asB p.1).bind fun t => if t then evSs cl s p.2 else evSs cl s' p.2) _ = _
  simp only [wR_bind]
  unfold wE KCo
  congr 1; funext p; congr 1; funext t
  cases t <;> rfl
theorem ws_loop (it : Itr) (t : Tg) : wS (evS cl (.loop it t s)) z Q = wS (forS (evI cl it) t (evSs cl s)) z Q := rfl
def KRt2 (b : Bg) (w : R) : Prop := Q (.rt w b)
def KRt (u : U) (z : Z) : Prop := wR (retU z u) (KRt2 Q z.b)
theorem ws_ret : wS (evS cl (.ret a)) z Q = wE (evE cl a) z (KRt Q) := by
  show wR ((evE cl a z).bind fun p => (retU p.2 p.1).bind fun r => some (Fl.rt r p.2.b)) _ = _
  simp only [wR_bind, wR_some]; rfl
theorem ws_ret0 : wS (evS cl .ret0) z Q = Q (.rt (.d .none) z.b) := wR_some _ _
end
/-! ### targets -/
section
variable (Q : Z → Prop) (z : Z) (i : Nat) (x : PyData) (xs : List PyData)
theorem wt_nm : wT (.nm i) x z Q = (canS z.r[i]? = true ∧ Q ⟨z.r.set i (.val x), z.b⟩) := by unfold wT; rw [bindT_nm, wR_ifc]
theorem wt_tup (ts : Tgs) : wT (.tup ts) (.tuple xs) z Q = wTs ts xs z Q := rfl
theorem wts_nil : wTs .nil [] z Q = Q z := wR_some _ _
def KTs (ts : Tgs) (xs : List PyData) (z : Z) : Prop := wTs ts xs z Q
theorem wts_cons (t : Tg) (ts : Tgs) : wTs (.cons t ts) (x :: xs) z Q = wT t x z (KTs Q ts xs) := by
  unfold wTs wT; rw [bindTs_cons, wR_bind]; rfl
end
/-! ### a def -/
def KEnd (Q : R × Bg → Prop) : Fl → Prop
  | .nx z => Q (.d .none, z.b)
  | .rt w b => Q (w, b)
  | _ => False
theorem x_enn (Q : R × Bg → Prop) (z : Z) : KEnd Q (.nx z) = Q (.d .none, z.b) := rfl
theorem x_enr (Q : R × Bg → Prop) (w : R) (b : Bg) : KEnd Q (.rt w b) = Q (w, b) := rfl
theorem wRun {tab : List Df} {x : Str} {d : Df} (h : tab.find? (fun d => decide (d.nm = x)) = some d) (n : Nat) (as : List A) (b : Bg) (Q : R × Bg → Prop) :
    wR (run tab (n + 1) x as b) Q = wS (evSs (run tab n) d.body) (init d.N.length as b) (KEnd Q) := by
  have e : run tab (n + 1) x as b = (evSs (run tab n) d.body (init d.N.length as b)).bind endF := by
    show (match tab.find? (fun d => decide (d.nm = x)) with | some d => runD d.N.length (evSs (run tab n) d.body) as b | none => none) = _
    rw [h]
    rfl
  rw [e, wR_bind]
  unfold wS
  congr 1
  funext f
  cases f <;> first | exact wR_some _ _ | exact wR_none _
/-! ### cases of a test -/
theorem br {K : Bool → Prop} {b : Bool} (h1 : b = true → K true) (h2 : b = false → K false) : K b := by cases b with | true => exact h1 rfl | false => exact h2 rfl
theorem brd {K : Bool → Prop} {p : Prop} [Decidable p] (h1 : p → K true) (h2 : ¬ p → K false) : K (decide p) := by
  by_cases h : p
  · rw [decide_eq_true h]; exact h1 h
  · rw [decide_eq_false h]; exact h2 h
/-! ### loops and comprehensions -/
def forK (J : Z → Prop) (Q : Fl → Prop) : Fl → Prop
  | .nx z => J z
  | .ct z => J z
  | .bk z => Q (.nx z)
  | .rt r b => Q (.rt r b)
section
variable (J : Z → Prop) (Q : Fl → Prop) (z z0 : Z) (l : List Nat) (r : R) (b : Bg)
theorem x_fkn : forK J Q (.nx z) = J z := rfl
theorem x_fkc : forK J Q (.ct z) = J z := rfl
theorem x_fkb : forK J Q (.bk z) = Q (.nx z) := rfl
theorem x_fkr : forK J Q (.rt r b) = Q (.rt r b) := rfl
theorem frl_nx : frl z0 l (.nx z) = .nx ⟨freeR z0.r z.r l, z.b⟩ := rfl
theorem frl_rt : frl z0 l (.rt r b) = .rt r b := rfl
end
/-- the items of a walk and the state behind it -/
def ItIs (items its : List PyData) (z1 : Z) (P : Z → Prop) : Prop := items = its ∧ P z1
def ForTurn {α : Type} (xs : List α) (enc : α → PyData) (I : List α → Z → Prop) (t : Tg) (body : MS) (Q : Fl → Prop) : Prop :=
  ∀ done x rest zc, xs = done ++ x :: rest → I done zc → wT t (enc x) zc fun z1 => wS body z1 (forK (fun z2 => I (done ++ [x]) z2) Q)
def ForExit {α : Type} (xs : List α) (I : List α → Z → Prop) (Q : Fl → Prop) : Prop := ∀ ze, I xs ze → Q (.nx ze)
theorem forGo_inv {t : Tg} {body : MS} {α : Type} {enc : α → PyData} {Q : Fl → Prop} {xs : List α} {I : List α → Z → Prop}
    (hs : ForTurn xs enc I t body Q) (hq : ForExit xs I Q) :
    ∀ (rest done : List α) (z : Z), xs = done ++ rest → I done z → wR (forGo t body (rest.map enc) z) Q
  | [], done, z, e, h => by
    rw [List.append_nil] at e
    subst e
    exact ⟨_, rfl, hq z h⟩
  | x :: rest, done, z, e, h => by
    obtain ⟨z1, e1, f, e2, k⟩ := hs done x rest z e h
    show wR ((bindT t (enc x) z).bind fun z1 => (body z1).bind fun
      | .nx z2 => forGo t body (rest.map enc) z2
      | .ct z2 => forGo t body (rest.map enc) z2
      | .bk z2 => some (Fl.nx z2)
      | .rt r b => some (.rt r b)) Q
    rw [e1]
    show wR ((body z1).bind _) Q
    rw [e2]
    cases f with
    | nx z2 => exact forGo_inv hs hq rest (done ++ [x]) z2 (by rw [e, List.append_assoc]; rfl) k
    | ct z2 => exact forGo_inv hs hq rest (done ++ [x]) z2 (by rw [e, List.append_assoc]; rfl) k
    | bk z2 => exact ⟨_, rfl, k⟩
    | rt r b => exact ⟨_, rfl, k⟩
def KFor {α : Type} (xs : List α) (enc : α → PyData) (I : List α → Z → Prop) (t : Tg) (body : MS) (Q : Fl → Prop) (items : List PyData) (lks : List Nat) (z1 : Z) : Prop :=
  items = xs.map enc ∧ I [] ⟨lockR z1.r lks, z1.b⟩ ∧ ForTurn xs enc I t body (fun f => Q (frl z1 lks f)) ∧ ForExit xs I (fun f => Q (frl z1 lks f))
/-- a loop by its invariant: I holds of what is done and the state -/
theorem wS_for {it : MI} {t : Tg} {body : MS} {z : Z} {Q : Fl → Prop} {α : Type} (xs : List α) (enc : α → PyData) (I : List α → Z → Prop)
    (h : wI it z (KFor xs enc I t body Q)) : wS (forS it t body) z Q := by
  obtain ⟨⟨items, lks, z1⟩, e, h1, h2, h3, h4⟩ := h
  unfold wS forS
  rw [e]
  show wR ((forGo t body items (z1.lock lks)).bind fun f => some (frl z1 lks f)) Q
  simp only at h1
  rw [wR_bind, h1]
  refine wR_mono (forGo_inv (Q := fun f => Q (frl z1 lks f)) h3 h4 xs [] _ rfl h2) fun f hf => ?_
  rw [wR_some]; exact hf
theorem compGo_inv {t : Tg} {c e : MU} {vs : List Nat} {α : Type} {enc : α → PyData} {Q : List PyData × Z → Prop} {xs : List α} {I : List α → List PyData → Z → Prop} (hl : xs.length ≤ sizeLine)
    (hs : ∀ done x rest acc zc, xs = done ++ x :: rest → acc.length ≤ done.length → I done acc zc → wR (compStep t c e vs (enc x) zc) fun r => I (done ++ [x]) (acc ++ r.1.toList) r.2) (hq : ∀ acc ze, acc.length ≤ xs.length → I xs acc ze → Q (acc, ze)) :
    ∀ (rest done : List α) (acc : List PyData) (z : Z), xs = done ++ rest → acc.length ≤ done.length → I done acc z → wR (compGo t c e vs (rest.map enc) z acc) Q
  | [], done, acc, z, e, hd, h => by
    rw [List.append_nil] at e
    subst e
    exact ⟨_, rfl, hq acc z hd h⟩
  | x :: rest, done, acc, z, e, hd, h => by
    obtain ⟨⟨o, z1⟩, e1, k⟩ := hs done x rest acc z e hd h
    have ho : o.toList.length ≤ 1 := by cases o <;> simp
    have hlt : acc.length < sizeLine := by
      rw [e, List.length_append, List.length_cons] at hl
      omega
    rw [List.map_cons, compGo_cons e1 hlt]
    exact compGo_inv hl hs hq rest (done ++ [x]) _ z1 (by rw [e, List.append_assoc]; rfl) (by rw [List.length_append, List.length_append]; simp only [List.length_cons, List.length_nil]; omega) k
/-- one turn of a comprehension -/
def KCt3 (Q : Option PyData → Z → Prop) (vs : List Nat) (x : PyData) (z : Z) : Prop := Q (some x) ⟨wipeR z.r vs, z.b⟩
def KCt2 (Q : Option PyData → Z → Prop) (vs : List Nat) (u : U) (z : Z) : Prop := wEc z u (KCt3 Q vs)
def KCt1 (Q : Option PyData → Z → Prop) (e : MU) (vs : List Nat) (z : Z) : Bool → Prop
  | true => wE e z (KCt2 Q vs)
  | false => Q none ⟨wipeR z.r vs, z.b⟩
theorem x_ctt (Q : Option PyData → Z → Prop) (e : MU) (vs : List Nat) (z : Z) : KCt1 Q e vs z true = wE e z (KCt2 Q vs) := rfl
theorem x_ctf (Q : Option PyData → Z → Prop) (e : MU) (vs : List Nat) (z : Z) : KCt1 Q e vs z false = Q none ⟨wipeR z.r vs, z.b⟩ := rfl
def KCt0 (Q : Option PyData → Z → Prop) (e : MU) (vs : List Nat) (u : U) (z : Z) : Prop := wR (asB u) (KCt1 Q e vs z)
def KCt (Q : Option PyData → Z → Prop) (c e : MU) (vs : List Nat) (z : Z) : Prop := wE c z (KCt0 Q e vs)
theorem wCt {t : Tg} {c e : MU} {vs : List Nat} {d : PyData} {z : Z} {Q : Option PyData → Z → Prop} : wR (compStep t c e vs d z) (fun r => Q r.1 r.2) = wT t d z (KCt Q c e vs) := by
  unfold compStep
  rw [wR_bind]
  unfold wT KCt wE
  congr 1; funext z1
  rw [wR_bind]
  congr 1; funext q
  rw [wR_bind]
  unfold KCt0
  congr 1; funext b
  cases b with
  | true => simp only [if_true, wR_bind, wR_some]; rfl
  | false => exact wR_some _ _
def CoTurn {α : Type} (xs : List α) (enc : α → PyData) (I : List α → List PyData → Z → Prop) (t : Tg) (c e : MU) (vs : List Nat) : Prop :=
  ∀ done x rest acc zc, xs = done ++ x :: rest → acc.length ≤ done.length → I done acc zc → wT t (enc x) zc (KCt (fun o z => I (done ++ [x]) (acc ++ o.toList) z) c e vs)
def CoExit {α : Type} (xs : List α) (I : List α → List PyData → Z → Prop) (K : List PyData → Z → Prop) : Prop := ∀ acc ze, acc.length ≤ xs.length → I xs acc ze → K acc ze
def KCoI2 {α : Type} (xs : List α) (enc : α → PyData) (I : List α → List PyData → Z → Prop) (t : Tg) (c e : MU) (vs : List Nat) (Q : U → Z → Prop) (lks : List Nat) (z1 zf : Z) : Prop :=
  I [] [] ⟨wipeR zf.r vs, zf.b⟩ ∧ CoTurn xs enc I t c e vs ∧ CoExit xs I fun acc ze => Q (.nw acc) ⟨freeR z1.r (putBack zf.r ze.r vs) lks, ze.b⟩
def KCoI {α : Type} (xs : List α) (enc : α → PyData) (I : List α → List PyData → Z → Prop) (t : Tg) (c e : MU) (vs : List Nat) (Q : U → Z → Prop) (items : List PyData) (lks : List Nat) (z1 : Z) : Prop :=
  items = xs.map enc ∧ xs.length ≤ 16777216 ∧ wR (fzs ⟨lockR z1.r lks, z1.b⟩ vs) (KCoI2 xs enc I t c e vs Q lks z1)
/-- a comprehension by its invariant -/
theorem wE_compI {it : MI} {t : Tg} {c e : MU} {vs : List Nat} {z : Z} {Q : U → Z → Prop} {α : Type} (xs : List α) (enc : α → PyData) (I : List α → List PyData → Z → Prop)
    (h : wI it z (KCoI xs enc I t c e vs Q)) : wE (compE it t c e vs) z Q := by
  obtain ⟨⟨items, lks, z1⟩, e1, h1, hl, zf, e2, h2, h3, h4⟩ := h
  simp only at h1 e2 h4
  have hc := compGo_inv (Q := fun p => Q (.nw p.1) ⟨freeR z1.r (putBack zf.r p.2.r vs) lks, p.2.b⟩) hl (fun done x rest acc zc k1 k2 k3 => by
    have := h3 done x rest acc zc k1 k2 k3
    rw [← wCt] at this
    exact this) (fun acc ze k1 k2 => h4 acc ze k1 k2) xs [] [] _ rfl (Nat.zero_le _) h2
  obtain ⟨⟨acc, ze⟩, e3, q⟩ := hc
  rw [← h1] at e3
  exact ⟨_, compE_of e1 e2 e3, q⟩
def CoPure {α : Type} (xs : List α) (enc : α → PyData) (p : α → Bool) (g : α → PyData) (t : Tg) (c e : MU) (vs : List Nat) (zf : Z) : Prop :=
  ∀ x ∈ xs, wT t (enc x) ⟨wipeR zf.r vs, zf.b⟩ (KCt (fun o z => o = (if p x then some (g x) else none) ∧ z = ⟨wipeR zf.r vs, zf.b⟩) c e vs)
def KCoP2 {α : Type} (xs : List α) (enc : α → PyData) (p : α → Bool) (g : α → PyData) (t : Tg) (c e : MU) (vs : List Nat) (Q : U → Z → Prop) (lks : List Nat) (z1 zf : Z) : Prop :=
  CoPure xs enc p g t c e vs zf ∧ Q (.nw ((xs.filter p).map g)) ⟨freeR z1.r (putBack zf.r (wipeR zf.r vs) vs) lks, zf.b⟩
def KCoP {α : Type} (xs : List α) (enc : α → PyData) (p : α → Bool) (g : α → PyData) (t : Tg) (c e : MU) (vs : List Nat) (Q : U → Z → Prop) (items : List PyData) (lks : List Nat) (z1 : Z) : Prop :=
  items = xs.map enc ∧ xs.length ≤ 16777216 ∧ wR (fzs ⟨lockR z1.r lks, z1.b⟩ vs) (KCoP2 xs enc p g t c e vs Q lks z1)
/-- a comprehension whose turns leave the state as it is -/
theorem wE_comp {it : MI} {t : Tg} {c e : MU} {vs : List Nat} {z : Z} {Q : U → Z → Prop} {α : Type} (xs : List α) (enc : α → PyData) (p : α → Bool) (g : α → PyData)
    (h : wI it z (KCoP xs enc p g t c e vs Q)) : wE (compE it t c e vs) z Q := by
  obtain ⟨w, e1, h1, hl, zf, e2, h2, h3⟩ := h
  refine wE_compI xs enc (fun done acc zc => zc = ⟨wipeR zf.r vs, zf.b⟩ ∧ acc = (done.filter p).map g) ⟨w, e1, h1, hl, zf, e2, ⟨rfl, rfl⟩, fun done x rest acc zc hx _ hI => ?_, fun acc ze _ hI => ?_⟩
  · obtain ⟨rfl, rfl⟩ := hI
    have := h2 x (by rw [hx]; simp)
    rw [← wCt (Q := fun o z => o = (if p x then some (g x) else none) ∧ z = ⟨wipeR zf.r vs, zf.b⟩)] at this
    rw [← wCt (Q := fun o z => z = ⟨wipeR zf.r vs, zf.b⟩ ∧ (done.filter p).map g ++ o.toList = ((done ++ [x]).filter p).map g)]
    refine wR_mono this fun r hr => ⟨hr.2, ?_⟩
    rw [hr.1, List.filter_append, List.map_append]
    by_cases hp : p x = true
    · simp [hp]
    · simp [hp]
  · obtain ⟨rfl, rfl⟩ := hI
    exact h3
def CoMap {α : Type} (xs : List α) (enc : α → PyData) (g : α → PyData) (t : Tg) (c e : MU) (vs : List Nat) (zf : Z) : Prop :=
  ∀ x ∈ xs, wT t (enc x) ⟨wipeR zf.r vs, zf.b⟩ (KCt (fun o z => o = some (g x) ∧ z = ⟨wipeR zf.r vs, zf.b⟩) c e vs)
def KCoM2 {α : Type} (xs : List α) (enc : α → PyData) (g : α → PyData) (t : Tg) (c e : MU) (vs : List Nat) (Q : U → Z → Prop) (lks : List Nat) (z1 zf : Z) : Prop :=
  CoMap xs enc g t c e vs zf ∧ Q (.nw (xs.map g)) ⟨freeR z1.r (putBack zf.r (wipeR zf.r vs) vs) lks, zf.b⟩
def KCoM {α : Type} (xs : List α) (enc : α → PyData) (g : α → PyData) (t : Tg) (c e : MU) (vs : List Nat) (Q : U → Z → Prop) (items : List PyData) (lks : List Nat) (z1 : Z) : Prop :=
  items = xs.map enc ∧ xs.length ≤ 16777216 ∧ wR (fzs ⟨lockR z1.r lks, z1.b⟩ vs) (KCoM2 xs enc g t c e vs Q lks z1)
/-- the same without a test -/
theorem wE_map {it : MI} {t : Tg} {c e : MU} {vs : List Nat} {z : Z} {Q : U → Z → Prop} {α : Type} (xs : List α) (enc : α → PyData) (g : α → PyData)
    (h : wI it z (KCoM xs enc g t c e vs Q)) : wE (compE it t c e vs) z Q := by
  refine wE_comp xs enc (fun _ => true) g (wR_mono h fun w ⟨h1, h2, h3⟩ => ⟨h1, h2, wR_mono h3 fun zf ⟨k1, k2⟩ => ⟨k1, ?_⟩⟩)
  rw [List.filter_eq_self.mpr (fun _ _ => rfl)]; exact k2
/-! ### lists of whole numbers as data -/
def nD (j : Nat) : PyData := .int (j : Int)
theorem nD_eq (j : Nat) : nD j = .int (j : Int) := rfl
theorem atI_nat {α : Type} {xs : List α} {j : Nat} (d : α) (h : j < xs.length) : atI xs ((j : Nat) : Int) = some (xs.getD j d) := by
  unfold atI ixN
  rw [if_pos (by omega), if_pos (by omega)]
  show xs[((j : Nat) : Int).toNat]? = _
  rw [Int.toNat_natCast, List.getD_eq_getElem?_getD, List.getElem?_eq_getElem h]; rfl
theorem atI_int {α : Type} {xs : List α} {i : Int} (d : α) (h0 : 0 ≤ i) (h : i < xs.length) : atI xs i = some (xs.getD i.toNat d) := by
  obtain ⟨j, rfl⟩ := Int.eq_ofNat_of_zero_le h0
  rw [Int.toNat_natCast]
  exact atI_nat d (by omega)
theorem atI_neg1 {α : Type} (xs : List α) : atI xs (-1) = xs.getLast? := by
  unfold atI ixN
  rw [List.getLast?_eq_getElem?, if_neg (by omega)]
  by_cases h : xs = []
  · subst h; rfl
  · have hl : 0 < xs.length := List.length_pos_iff.mpr h
    rw [if_pos (by omega)]
    show xs[(-1 + (xs.length : Int)).toNat]? = _
    rw [show (-1 + (xs.length : Int)).toNat = xs.length - 1 by omega]
/-- an item of a list of whole numbers, or of any data, at a place -/
theorem at_map {α : Type} {f : α → PyData} {xs : List α} {j : Nat} (d : α) (h : j < xs.length) : (atI (xs.map f) ((j : Nat) : Int)).map R.d = some (.d (f (xs.getD j d))) := by
  rw [atI_nat (f d) (by rw [List.length_map]; exact h)]
  show some (R.d _) = _
  congr 2
  simp [List.getD, h]
theorem at_mapI {α : Type} {f : α → PyData} {xs : List α} {i : Int} (d : α) (h0 : 0 ≤ i) (h : i < xs.length) : (atI (xs.map f) i).map R.d = some (.d (f (xs.getD i.toNat d))) := by
  obtain ⟨j, rfl⟩ := Int.eq_ofNat_of_zero_le h0
  rw [Int.toNat_natCast]
  exact at_map d (by omega)
theorem ixN_nat {n j : Nat} (h : j < n) : ixN n ((j : Nat) : Int) = some j := by
  unfold ixN
  rw [if_pos (by omega), if_pos (by omega), Int.toNat_natCast]
theorem ints_map (ns : List Int) : intsD (ns.map PyData.int) = some ns := by
  induction ns with
  | nil => rfl
  | cons a r ih =>
    show (intsD (r.map PyData.int)).map (a :: ·) = _
    rw [ih]; rfl
theorem ints_nat (ns : List Nat) : intsD (ns.map nD) = some (ns.map fun j : Nat => (j : Int)) := by
  rw [← ints_map, List.map_map]; rfl
theorem ints_f {α : Type} (f : α → Int) (xs : List α) : intsD (xs.map fun x => PyData.int (f x)) = some (xs.map f) := by
  rw [← ints_map, List.map_map]; rfl
theorem bls_f {α : Type} (f : α → Bool) (xs : List α) : blsD (xs.map fun x => PyData.bool (f x)) = some (xs.map f) := by
  induction xs with
  | nil => rfl
  | cons a r ih =>
    show (blsD (r.map fun x => PyData.bool (f x))).map (f a :: ·) = _
    rw [ih]; rfl
theorem canL_ints (ns : List Int) : PyData.canLayAll0 (ns.map PyData.int) = true := by
  induction ns with
  | nil => simp [PyData.canLayAll0]
  | cons a r ih => simp [PyData.canLayAll0, PyData.canLay0]; simpa using ih
theorem depL_ints (ns : List Int) : PyData.depthAll (ns.map PyData.int) = 0 := by
  induction ns with
  | nil => simp [PyData.depthAll]
  | cons a r ih => simp [PyData.depthAll, PyData.depth]; simpa using ih
theorem shp_ints (ns : List Int) : SeqAt.shaped (.list (ns.map PyData.int)) = true := by
  simp [SeqAt.shaped, PyData.canLay0, PyData.depth, canL_ints, depL_ints]
theorem shp_intsT (ns : List Int) : SeqAt.shaped (.tuple (ns.map PyData.int)) = true := by
  simp [SeqAt.shaped, PyData.canLay0, PyData.depth, canL_ints, depL_ints]
theorem any_eqv_int (k : Int) (ns : List Int) : ((ns.map PyData.int).any fun z => PyData.eqv z (.int k)) = decide (k ∈ ns) := by
  induction ns with
  | nil => rfl
  | cons a r ih =>
    rw [List.map_cons, List.any_cons, ih]
    show ((a == k) || decide (k ∈ r)) = _
    by_cases h : k = a
    · subst h; simp
    · simp [h, Ne.symm h]
theorem in_ints (k : Int) (ns : List Int) : inS (.int k) (.list (ns.map PyData.int)) = some (decide (k ∈ ns)) := by
  show ifc (SeqAt.shaped _ && SeqAt.shaped _) _ = _
  rw [shp_int, shp_ints, any_eqv_int]; rfl
theorem in_intsT (k : Int) (ns : List Int) : inS (.int k) (.tuple (ns.map PyData.int)) = some (decide (k ∈ ns)) := by
  show ifc (flatD _ && _) _ = _
  rw [any_eqv_int, show (ns.map PyData.int).all flatD = true by simp [List.all_map, flatD]]; rfl
theorem in_nats (k : Nat) (ns : List Nat) : inS (.int (k : Int)) (.list (ns.map nD)) = some (decide (k ∈ ns)) := by
  rw [show ns.map nD = (ns.map fun j : Nat => (j : Int)).map PyData.int by rw [List.map_map]; rfl, in_ints]
  congr 2
  simp only [List.mem_map, eq_iff_iff]
  exact ⟨fun ⟨a, h1, h2⟩ => by have : a = k := by omega
                               exact this ▸ h1, fun h => ⟨k, h, rfl⟩⟩
theorem eq_ints0 (ns : List Int) : eqS (.list (ns.map PyData.int)) (.list []) = some ns.isEmpty := by
  show ifc (SeqAt.shaped _ && SeqAt.shaped _) _ = _
  rw [shp_ints, show SeqAt.shaped (.list []) = true from shp_ints []]
  cases ns <;> simp [PyData.eqv, PyData.eqvAll, ifc]
theorem eq_nats0 (ns : List Nat) : eqS (.list (ns.map nD)) (.list []) = some ns.isEmpty := by
  rw [show ns.map nD = (ns.map fun j : Nat => (j : Int)).map PyData.int by rw [List.map_map]; rfl, eq_ints0]
  cases ns <;> rfl
theorem rg_nat (n : Nat) : rgD 0 (n : Int) = (List.range n).map nD := by
  unfold rgD
  rw [show ((n : Int) - 0).toNat = n by omega]
  congr 1
  funext i
  show PyData.int (0 + (i : Int)) = .int (i : Int)
  congr 1; omega
theorem rg1_nat (n : Nat) : rgD 0 ((n : Int) + 1) = (List.range (n + 1)).map nD := rg_nat (n + 1)
theorem enum_map {α : Type} (f : α → PyData) (xs : List α) : enumD (xs.map f) = xs.zipIdx.map fun p => .tuple [nD p.2, f p.1] := by
  unfold enumD
  rw [List.zipIdx_map, List.map_map]; rfl
theorem zip_map {α β : Type} (f : α → PyData) (g : β → PyData) (xs : List α) (ys : List β) : zipD (xs.map f) (ys.map g) = (xs.zip ys).map fun p => .tuple [f p.1, g p.2] := by
  unfold zipD
  rw [List.zip_map, List.map_map]; rfl
theorem okI_in {i : Int} (h0 : 0 ≤ i) (h : i ≤ 1000000) : okI i = true := by
  simp only [okI, Bool.and_eq_true, decide_eq_true_eq]
  constructor <;> omega
theorem okRg_in {i : Int} (h0 : 0 ≤ i) (h : i ≤ 1000000) : okRg 0 i = true := by
  simp only [okRg, Bool.and_eq_true, decide_eq_true_eq]
  refine ⟨⟨⟨⟨?_, ?_⟩, ?_⟩, ?_⟩, ?_⟩ <;> omega
theorem okI_nat {n : Nat} (h : n ≤ 1000000) : okI (n : Int) = true := by
  simp only [okI, Bool.and_eq_true, decide_eq_true_eq]
  constructor <;> omega
theorem okRg_nat {n : Nat} (h : n ≤ 1000000) : okRg 0 (n : Int) = true := by
  simp only [okRg, Bool.and_eq_true, decide_eq_true_eq]
  refine ⟨⟨⟨⟨?_, ?_⟩, ?_⟩, ?_⟩, ?_⟩ <;> omega
theorem cut_take (xs : List PyData) (k : Nat) : cutD xs none (some (k : Int)) = xs.take k := by
  unfold cutD
  rw [HT.sIx_none, HT.sIx_nat, Nat.sub_zero, List.drop_zero]
  rcases Nat.le_total k xs.length with h | h
  · rw [Nat.min_eq_left h]
  · rw [Nat.min_eq_right h, List.take_length, List.take_of_length_le h]
theorem cut_drop (xs : List PyData) (k : Nat) : cutD xs (some (k : Int)) none = xs.drop k := by
  unfold cutD
  rw [HT.sIx_none, HT.sIx_nat]
  rcases Nat.le_total k xs.length with h | h
  · rw [Nat.min_eq_left h]
    exact List.take_of_length_le (by rw [List.length_drop]; omega)
  · rw [Nat.min_eq_right h, List.drop_length, List.drop_of_length_le h]; simp
theorem cut_mid (xs : List PyData) (a b : Nat) : cutD xs (some (a : Int)) (some (b : Int)) = (xs.drop a).take (b - a) := by
  unfold cutD
  rw [HT.sIx_nat, HT.sIx_nat]
  rcases Nat.le_total a xs.length with h | h
  · rw [Nat.min_eq_left h]
    rcases Nat.le_total b xs.length with k | k
    · rw [Nat.min_eq_left k]
    · rw [Nat.min_eq_right k, List.take_of_length_le (by rw [List.length_drop]; omega), List.take_of_length_le (by rw [List.length_drop]; omega)]
  · rw [Nat.min_eq_right h, List.drop_of_length_le h, List.drop_of_length_le (Nat.le_refl _)]; simp
theorem cut_init (xs : List PyData) : cutD xs none (some (-1)) = xs.dropLast := by
  unfold cutD
  rw [HT.sIx_none, Nat.sub_zero, List.drop_zero, List.dropLast_eq_take]
  congr 1
  show (if (-1 : Int) < 0 then (-1 + (xs.length : Int)).toNat else min (-1 : Int).toNat xs.length) = _
  rw [if_pos (by omega)]; omega
theorem cut_last (xs : List PyData) : cutD xs (some (-1)) none = xs.drop (xs.length - 1) := by
  unfold cutD
  have e : HT.sIx xs.length 0 (some (-1)) = xs.length - 1 := by
    show (if (-1 : Int) < 0 then (-1 + (xs.length : Int)).toNat else min (-1 : Int).toNat xs.length) = _
    rw [if_pos (by omega)]; omega
  rw [e, HT.sIx_none]
  exact List.take_of_length_le (by rw [List.length_drop]; omega)
theorem min_sorted {c : Nat} {rest : List Nat} (h : (c :: rest).Pairwise (· < ·)) : (rest.map fun j : Nat => (j : Int)).foldl min (c : Int) = (c : Int) := by
  have key : ∀ (l : List Nat), (∀ y ∈ l, c < y) → (l.map fun j : Nat => (j : Int)).foldl min (c : Int) = (c : Int) := by
    intro l
    induction l with
    | nil => intro _; rfl
    | cons a r ih =>
      intro k
      have ha := k a List.mem_cons_self
      rw [List.map_cons, List.foldl_cons, Int.min_eq_left (by omega)]
      exact ih fun y hy => k y (List.mem_cons_of_mem _ hy)
  exact key rest (List.pairwise_cons.mp h).1
theorem mms_min {c : Nat} {rest : List Nat} (h : (c :: rest).Pairwise (· < ·)) : mmS min [.list (nD c :: rest.map nD)] = some (.d (nD c)) := by
  show (intsD ((c :: rest).map nD)).bind _ = _
  rw [ints_nat]
  show some (R.d (.int ((rest.map fun j : Nat => (j : Int)).foldl min (c : Int)))) = _
  rw [min_sorted h]; rfl
theorem cut_one (xs : List PyData) : cutD xs (some 1) none = xs.drop 1 := cut_drop xs 1
theorem map_dropLast' {α : Type} (f : α → PyData) (xs : List α) : (xs.map f).dropLast = xs.dropLast.map f := (List.map_dropLast).symm
theorem map_drop' {α : Type} (f : α → PyData) (xs : List α) (k : Nat) : (xs.map f).drop k = (xs.drop k).map f := (List.map_drop).symm
theorem map_take' {α : Type} (f : α → PyData) (xs : List α) (k : Nat) : (xs.map f).take k = (xs.take k).map f := (List.map_take).symm
end Mz


set_option Elab.async false
set_option linter.all false
set_option autoImplicit false
/-! Mx1: how many unlike items; prefixes. Plain lists. -/
namespace Mx
section
variable {α : Type}
theorem snoc_ind {P : List α → Prop} (h0 : P []) (hs : ∀ l x, P l → P (l ++ [x])) (l : List α) : P l := by
  have h : ∀ m : List α, P m.reverse := by
    intro m
    induction m with
    | nil => exact h0
    | cons a r ih => rw [List.reverse_cons]; exact hs _ _ ih
  have := h l.reverse
  rwa [List.reverse_reverse] at this
theorem snoc_split {l l0 r : List α} {x y : α} (h : l0 ++ [y] = l ++ x :: r) : (r = [] ∧ l = l0 ∧ x = y) ∨ ∃ r', r = r' ++ [y] ∧ l0 = l ++ x :: r' := by
  rcases List.eq_nil_or_concat r with rfl | ⟨r', z, rfl⟩
  · have := List.append_inj' h rfl
    obtain ⟨h1, h2⟩ := this
    cases h2
    exact .inl ⟨rfl, h1.symm, rfl⟩
  · rw [List.concat_eq_append] at h ⊢
    have e : l0 ++ [y] = (l ++ x :: r') ++ [z] := by rw [h]; simp
    obtain ⟨h1, h2⟩ := List.append_inj' e rfl
    cases h2
    exact .inr ⟨r', rfl, h1⟩
theorem getD_app_lt {l m : List α} {i : Nat} {d : α} (h : i < l.length) : (l ++ m).getD i d = l.getD i d := by
  simp [List.getD, List.getElem?_append_left h]
theorem getD_app_eq {l m : List α} {x d : α} {i : Nat} (h : i = l.length) : (l ++ x :: m).getD i d = x := by
  subst h; simp [List.getD]
theorem getD_mem {l : List α} {i : Nat} {d : α} (h : i < l.length) : l.getD i d ∈ l := by
  rw [List.getD_eq_getElem?_getD, List.getElem?_eq_getElem h]; exact List.getElem_mem h
theorem getD_map {β : Type} {f : α → β} {l : List α} {i : Nat} {d : α} {e : β} (h : i < l.length) : (l.map f).getD i e = f (l.getD i d) := by
  simp [List.getD, h]
end
theorem le_sum {l : List Nat} {a : Nat} (h : a ∈ l) : a ≤ l.sum := by
  induction l with
  | nil => cases h
  | cons b r ih =>
    rw [List.sum_cons]
    rcases List.mem_cons.mp h with rfl | h
    · omega
    · have := ih h; omega
theorem inj_of_nodup {α β : Type} {f : α → β} : ∀ {l : List α}, (l.map f).Nodup → ∀ {a b : α}, a ∈ l → b ∈ l → f a = f b → a = b
  | x :: l, h, a, b, ha, hb, e => by
    rw [List.map_cons, List.nodup_cons] at h
    rcases List.mem_cons.mp ha with rfl | ha'
    · rcases List.mem_cons.mp hb with rfl | hb'
      · rfl
      · exact absurd (List.mem_map.mpr ⟨b, hb', e.symm⟩) h.1
    · rcases List.mem_cons.mp hb with rfl | hb'
      · exact absurd (List.mem_map.mpr ⟨a, ha', e⟩) h.1
      · exact inj_of_nodup h.2 ha' hb' e
/-- how many unlike items -/
def card : List Nat → Nat
  | [] => 0
  | x :: l => if x ∈ l then card l else card l + 1
theorem card_cons (x : Nat) (l : List Nat) : card (x :: l) = if x ∈ l then card l else card l + 1 := rfl
theorem card_le : ∀ l, card l ≤ l.length
  | [] => Nat.le_refl _
  | x :: l => by
    have := card_le l
    unfold card
    simp only [List.length_cons]
    split <;> omega
theorem card_eq_iff : ∀ l, card l = l.length ↔ l.Nodup
  | [] => by simp [card]
  | x :: l => by
    have h1 := card_le l
    have h2 := card_eq_iff l
    unfold card
    rw [List.nodup_cons]
    simp only [List.length_cons]
    split
    · rename_i h
      exact ⟨fun e => by omega, fun e => absurd h e.1⟩
    · rename_i h
      exact ⟨fun e => ⟨h, h2.mp (by omega)⟩, fun e => by rw [h2.mpr e.2]⟩
theorem card_filter_ne {x : Nat} : ∀ {l : List Nat}, x ∈ l → card (l.filter fun y => decide (y ≠ x)) + 1 = card l
  | y :: l, h => by
    by_cases e : y = x
    · subst e
      rw [List.filter_cons_of_neg (by simp)]
      by_cases m : y ∈ l
      · rw [card_filter_ne m, card_cons, if_pos m]
      · have : l.filter (fun z => decide (z ≠ y)) = l := List.filter_eq_self.mpr fun z hz => by
          simp only [ne_eq, decide_not, Bool.not_eq_eq_eq_not, Bool.not_true, decide_eq_false_iff_not]
          exact fun q => m (q ▸ hz)
        rw [this, card_cons, if_neg m]
    · have m : x ∈ l := by
        rcases List.mem_cons.mp h with q | q
        · exact absurd q.symm e
        · exact q
      have ih := card_filter_ne m
      rw [List.filter_cons_of_pos (by simpa using e)]
      have hm : y ∈ l.filter (fun z => decide (z ≠ x)) ↔ y ∈ l := by simp [e]
      rw [card_cons, card_cons]
      by_cases k : y ∈ l
      · rw [if_pos (hm.mpr k), if_pos k]; exact ih
      · rw [if_neg (fun q => k (hm.mp q)), if_neg k, ih]
theorem card_congr : ∀ {l m : List Nat}, (∀ x, x ∈ l ↔ x ∈ m) → card l = card m
  | [], m, h => by
    cases m with
    | nil => rfl
    | cons a r => exact absurd ((h a).mpr List.mem_cons_self) (by simp)
  | x :: l, m, h => by
    have hx : x ∈ m := (h x).mp List.mem_cons_self
    by_cases k : x ∈ l
    · rw [card_cons, if_pos k]
      have e : card l = card m := card_congr fun y => ⟨fun q => (h y).mp (List.mem_cons_of_mem _ q), fun q => by
        rcases List.mem_cons.mp ((h y).mpr q) with r | r
        · exact r ▸ k
        · exact r⟩
      exact e
    · have e := card_filter_ne hx
      have e2 : card l = card (m.filter fun y => decide (y ≠ x)) := card_congr fun y => by
        simp only [List.mem_filter, ne_eq, decide_not, Bool.not_eq_eq_eq_not, Bool.not_true, decide_eq_false_iff_not]
        exact ⟨fun q => ⟨(h y).mp (List.mem_cons_of_mem _ q), fun z => k (z ▸ q)⟩, fun q => by
          rcases List.mem_cons.mp ((h y).mpr q.1) with r | r
          · exact absurd r q.2
          · exact r⟩
      rw [card_cons, if_neg k, e2]; exact e
theorem card_sub {l : List Nat} : ∀ {J : List Nat}, (∀ x ∈ J, x ∈ l) → card (l.filter fun y => decide (y ∉ J)) + card J = card l
  | [], _ => by
    rw [List.filter_eq_self.mpr (fun _ _ => by simp)]; rfl
  | x :: J, h => by
    have ih := card_sub (l := l) (J := J) fun y q => h y (List.mem_cons_of_mem _ q)
    by_cases k : x ∈ J
    · have e : (l.filter fun y => decide (y ∉ x :: J)) = l.filter fun y => decide (y ∉ J) := by
        apply List.filter_congr
        intro y _
        by_cases q : y = x
        · subst q; simp [k]
        · simp [q]
      rw [e, card_cons, if_pos k]; exact ih
    · have e : (l.filter fun y => decide (y ∉ x :: J)) = (l.filter fun y => decide (y ∉ J)).filter fun y => decide (y ≠ x) := by
        rw [List.filter_filter]
        apply List.filter_congr
        intro y _
        by_cases q : y = x
        · simp [q]
        · simp [q]
      have hx : x ∈ l.filter fun y => decide (y ∉ J) := by simp [h x List.mem_cons_self, k]
      have := card_filter_ne hx
      rw [e, card_cons, if_neg k]; omega
theorem card_nodup {l : List Nat} (h : l.Nodup) : card l = l.length := (card_eq_iff l).mpr h
theorem card_snoc {l : List Nat} {x : Nat} (h : x ∉ l) : card (l ++ [x]) = card l + 1 := by
  rw [card_congr (m := x :: l) (by intro y; simp [or_comm])]
  rw [card_cons, if_neg h]
/-- the least that is not there -/
theorem mex_ex {near : List Nat} {m : Nat} (h : near.length < m) : ∃ c rest, (List.range m).filter (fun k => decide (k ∉ near)) = c :: rest ∧ c < m ∧ c ∉ near ∧ ∀ k < c, k ∈ near := by
  cases e : (List.range m).filter (fun k => decide (k ∉ near)) with
  | nil =>
    exfalso
    have hs : ∀ x ∈ List.range m, x ∈ near := by
      intro x hx
      have : x ∉ (List.range m).filter (fun k => decide (k ∉ near)) := by rw [e]; simp
      simp only [List.mem_filter, decide_not, Bool.not_eq_eq_eq_not, Bool.not_true, decide_eq_false_iff_not, not_and, Decidable.not_not] at this
      exact this hx
    have h1 := card_sub (l := near) (J := List.range m) hs
    rw [card_nodup List.nodup_range, List.length_range] at h1
    have := card_le near
    omega
  | cons c rest =>
    have hc : c ∈ (List.range m).filter (fun k => decide (k ∉ near)) := by rw [e]; simp
    simp only [List.mem_filter, List.mem_range, decide_not, Bool.not_eq_eq_eq_not, Bool.not_true, decide_eq_false_iff_not] at hc
    refine ⟨c, rest, rfl, hc.1, hc.2, fun k hk => ?_⟩
    have hp : (c :: rest).Pairwise (· < ·) := by rw [← e]; exact List.pairwise_lt_range.filter _
    have hn : k ∉ c :: rest := by
      intro q
      rcases List.mem_cons.mp q with rfl | q
      · omega
      · have := (List.pairwise_cons.mp hp).1 k q; omega
    rw [← e] at hn
    simp only [List.mem_filter, List.mem_range, decide_not, Bool.not_eq_eq_eq_not, Bool.not_true, decide_eq_false_iff_not, not_and, Decidable.not_not] at hn
    exact hn (by omega)
theorem pow_sum : ∀ (c : Nat) (L : List Nat), (∀ k < c, k ∈ L) → 2 ^ c ≤ (L.map fun x => 2 ^ x).sum + 1
  | 0, L, _ => by simp
  | c + 1, L, h => by
    have hc : c ∈ L := h c (by omega)
    have hp := List.perm_cons_erase hc
    have hs : (L.map fun x => 2 ^ x).sum = 2 ^ c + ((L.erase c).map fun x => 2 ^ x).sum := by
      rw [(hp.map fun x => 2 ^ x).sum_nat, List.map_cons, List.sum_cons]
    have ih := pow_sum c (L.erase c) fun k hk => by
      rw [List.mem_erase_of_ne (by omega)]; exact h k (by omega)
    rw [hs, Nat.pow_succ]; omega
theorem countP_in : ∀ {J : List Nat}, J.Nodup → ∀ l : List Nat, l.countP (fun q => decide (q ∈ J)) = (J.map fun x => l.count x).sum
  | [], _, l => by simp
  | x :: J, h, l => by
    obtain ⟨h1, h2⟩ := List.nodup_cons.mp h
    have ih := countP_in h2 l
    rw [List.map_cons, List.sum_cons, ← ih]
    clear ih
    induction l with
    | nil => rfl
    | cons y r ih =>
      simp only [List.countP_cons, List.count_cons, ih]
      by_cases e : y = x
      · subst e; simp [h1]; omega
      · by_cases q : y ∈ J
        · simp [e, q]; omega
        · simp [e, q]
theorem sum_le_sum {α : Type} : ∀ {l : List α} {f g : α → Nat}, (∀ x ∈ l, f x ≤ g x) → (l.map f).sum ≤ (l.map g).sum
  | [], _, _, _ => Nat.le_refl _
  | x :: l, f, g, h => by
    rw [List.map_cons, List.map_cons, List.sum_cons, List.sum_cons]
    have := sum_le_sum (l := l) fun y q => h y (List.mem_cons_of_mem _ q)
    have := h x List.mem_cons_self
    omega
end Mx

set_option Elab.async false
set_option linter.all false
set_option autoImplicit false
/-! Mx2: ties, parts, least colours, two colours. Plain lists. -/
namespace Mx
abbrev Ties := List (List Nat)
def RowOk (k : Nat) (row : List Nat) : Prop := row.Pairwise (· < ·) ∧ ∀ j ∈ row, j < k
def Vd (ts : Ties) : Prop := ∀ l x r, ts = l ++ x :: r → RowOk l.length x
theorem RowOk.len {k : Nat} {row : List Nat} (h : RowOk k row) : row.length ≤ k := by
  have h1 : row.Nodup := h.1.imp fun {a b} h => by omega
  have h2 := card_sub (l := List.range k) (J := row) fun x hx => List.mem_range.mpr (h.2 x hx)
  rw [card_nodup h1, card_nodup List.nodup_range, List.length_range] at h2
  omega
theorem Vd.nil : Vd [] := fun l x r h => by simp at h
theorem Vd.pre {l m : Ties} (h : Vd (l ++ m)) : Vd l := fun a x r e => h a x (r ++ m) (by rw [e]; simp)
theorem Vd.last {l : Ties} {x : List Nat} {r : Ties} (h : Vd (l ++ x :: r)) : RowOk l.length x := h l x r rfl
theorem Vd.snoc {l : Ties} {x : List Nat} (h : Vd l) (k : RowOk l.length x) : Vd (l ++ [x]) := fun a y r e => by
  rcases snoc_split e with ⟨_, rfl, rfl⟩ | ⟨r', _, rfl⟩
  · exact k
  · exact h a y r' rfl
def gJ (p row : List Nat) : List Nat := row.map fun j => p.getD j 0
def pStep (p row : List Nat) : List Nat := p.map (fun q => if q ∈ gJ p row then p.length else q) ++ [p.length]
def partC (ts : Ties) : List Nat := ts.foldl pStep []
theorem partC_snoc (l : Ties) (x : List Nat) : partC (l ++ [x]) = pStep (partC l) x := by simp [partC]
theorem partC_len (ts : Ties) : (partC ts).length = ts.length := by
  refine snoc_ind (P := fun ts : Ties => (partC ts).length = ts.length) rfl (fun l x ih => ?_) ts
  simp only [partC_snoc, pStep, List.length_append, List.length_map, ih, List.length_cons, List.length_nil]
theorem partC_lt (ts : Ties) : ∀ q ∈ partC ts, q < ts.length := by
  refine snoc_ind (P := fun ts : Ties => ∀ q ∈ partC ts, q < ts.length) (by simp [partC]) (fun l x ih q hq => ?_) ts
  rw [partC_snoc, pStep, partC_len] at hq
  rw [List.length_append, List.length_cons, List.length_nil]
  simp only [List.mem_append, List.mem_map, List.mem_cons, List.not_mem_nil, or_false] at hq
  rcases hq with ⟨a, ha, rfl⟩ | rfl
  · have := ih a ha
    split <;> omega
  · omega
def Fo (ts : Ties) : Prop := ∀ l x r, ts = l ++ x :: r → (gJ (partC l) x).Nodup
theorem Fo.nil : Fo [] := fun l x r h => by simp at h
theorem Fo.pre {l m : Ties} (h : Fo (l ++ m)) : Fo l := fun a x r e => h a x (r ++ m) (by rw [e]; simp)
theorem Fo.last {l : Ties} {x : List Nat} {r : Ties} (h : Fo (l ++ x :: r)) : (gJ (partC l) x).Nodup := h l x r rfl
theorem Fo.snoc {l : Ties} {x : List Nat} (h : Fo l) (k : (gJ (partC l) x).Nodup) : Fo (l ++ [x]) := fun a y r e => by
  rcases snoc_split e with ⟨_, rfl, rfl⟩ | ⟨r', _, rfl⟩
  · exact k
  · exact h a y r' rfl
theorem gJ_mem {p row : List Nat} {k : Nat} (h : ∀ j ∈ row, j < k) (hp : p.length = k) : ∀ q ∈ gJ p row, q ∈ p := by
  intro q hq
  obtain ⟨j, hj, rfl⟩ := List.mem_map.mp hq
  exact getD_mem (by rw [hp]; exact h j hj)
theorem card_pStep {p row : List Nat} (hp : ∀ q ∈ p, q < p.length) (hr : ∀ j ∈ row, j < p.length) : card (pStep p row) + card (gJ p row) = card p + 1 := by
  have hs := card_sub (gJ_mem hr rfl)
  have hn : p.length ∉ p.filter fun y => decide (y ∉ gJ p row) := by
    intro q
    have := hp _ (List.mem_filter.mp q).1
    omega
  have hc : card (pStep p row) = card (p.filter (fun y => decide (y ∉ gJ p row)) ++ [p.length]) := card_congr fun y => by
    simp only [pStep, List.mem_append, List.mem_map, List.mem_cons, List.not_mem_nil, or_false, List.mem_filter, decide_not, Bool.not_eq_eq_eq_not, Bool.not_true, decide_eq_false_iff_not]
    constructor
    · rintro (⟨a, ha, rfl⟩ | h)
      · by_cases k : a ∈ gJ p row
        · rw [if_pos k]; exact .inr rfl
        · rw [if_neg k]; exact .inl ⟨ha, k⟩
      · exact .inr h
    · rintro (⟨h1, h2⟩ | h)
      · exact .inl ⟨y, h1, if_neg h2⟩
      · exact .inr h
  rw [hc, card_snoc hn]; omega
/-- parts are as many as knots less ties just where it is a forest -/
theorem parts_sum {ts : Ties} (hv : Vd ts) : ts.length ≤ card (partC ts) + (ts.map List.length).sum ∧ (ts.length = card (partC ts) + (ts.map List.length).sum ↔ Fo ts) := by
  revert hv
  refine snoc_ind (P := fun ts : Ties => Vd ts → ts.length ≤ card (partC ts) + (ts.map List.length).sum ∧ (ts.length = card (partC ts) + (ts.map List.length).sum ↔ Fo ts)) (fun _ => ⟨by simp, ?_⟩) (fun l x ih hv => ?_) ts
  · exact ⟨fun _ => Fo.nil, fun _ => rfl⟩
  · obtain ⟨h1, h2⟩ := ih hv.pre
    have hr := (Vd.last (r := []) hv).2
    have hc := card_pStep (p := partC l) (row := x) (by rw [partC_len]; exact partC_lt l) (by rw [partC_len]; exact hr)
    have hle := card_le (gJ (partC l) x)
    have hlen : (gJ (partC l) x).length = x.length := by simp [gJ]
    have hiff := card_eq_iff (gJ (partC l) x)
    rw [partC_snoc, List.map_append, List.sum_append, List.length_append]
    simp only [List.map_cons, List.map_nil, List.sum_cons, List.sum_nil, List.length_cons, List.length_nil]
    refine ⟨by omega, fun e => ?_, fun f => ?_⟩
    · exact (h2.mp (by omega)).snoc (hiff.mp (by omega))
    · have := h2.mpr f.pre
      have := hiff.mpr (Fo.last (r := []) f)
      omega
/-! ### least colours -/
def mexL (near : List Nat) (m : Nat) : Nat := ((List.range m).filter fun k => decide (k ∉ near)).headD 0
def leastRow (f row : List Nat) : Nat := mexL (gJ f row) (row.length + 1)
def lStep (f row : List Nat) : List Nat := f ++ [leastRow f row]
def leastC (ts : Ties) : List Nat := ts.foldl lStep []
theorem leastC_snoc (l : Ties) (x : List Nat) : leastC (l ++ [x]) = leastC l ++ [leastRow (leastC l) x] := by simp [leastC, lStep]
theorem leastC_len (ts : Ties) : (leastC ts).length = ts.length := by
  refine snoc_ind (P := fun ts : Ties => (leastC ts).length = ts.length) rfl (fun l x ih => ?_) ts
  simp [leastC_snoc, ih]
theorem leastC_app (l m : Ties) : ∃ r, leastC (l ++ m) = leastC l ++ r := by
  refine snoc_ind (P := fun m : Ties => ∃ r, leastC (l ++ m) = leastC l ++ r) ⟨[], by simp⟩ (fun m x ih => ?_) m
  obtain ⟨r, e⟩ := ih
  exact ⟨r ++ [leastRow (leastC (l ++ m)) x], by rw [← List.append_assoc, leastC_snoc, e]; simp⟩
theorem leastC_take (ts : Ties) (k : Nat) : leastC (ts.take k) = (leastC ts).take k := by
  by_cases h : k ≤ ts.length
  · obtain ⟨r, e⟩ := leastC_app (ts.take k) (ts.drop k)
    rw [List.take_append_drop] at e
    have hk : (leastC (ts.take k)).length = k := by rw [leastC_len, List.length_take]; omega
    have h2 : (leastC (ts.take k) ++ r).take k = leastC (ts.take k) := by rw [List.take_append_of_le_length (by omega)]; exact List.take_of_length_le (by omega)
    rw [e, h2]
  · rw [List.take_of_length_le (by omega), List.take_of_length_le (by rw [leastC_len]; omega)]
theorem mexL_spec {near : List Nat} {m : Nat} (h : near.length < m) : mexL near m < m ∧ mexL near m ∉ near ∧ (∀ k < mexL near m, k ∈ near) ∧ ∃ rest, (List.range m).filter (fun k => decide (k ∉ near)) = mexL near m :: rest := by
  obtain ⟨c, rest, e, h1, h2, h3⟩ := mex_ex h
  have hm : mexL near m = c := by unfold mexL; rw [e]; rfl
  rw [hm]
  exact ⟨h1, h2, h3, rest, e⟩
theorem leastRow_spec (f row : List Nat) : leastRow f row ≤ row.length ∧ (∀ j ∈ row, f.getD j 0 ≠ leastRow f row) ∧ (∀ k < leastRow f row, ∃ j ∈ row, f.getD j 0 = k) := by
  obtain ⟨h1, h2, h3, _⟩ := mexL_spec (near := gJ f row) (m := row.length + 1) (by simp [gJ])
  refine ⟨by have : leastRow f row < row.length + 1 := h1; omega, fun j hj e => h2 ?_, fun k hk => ?_⟩
  · show mexL (gJ f row) (row.length + 1) ∈ gJ f row
    rw [← show leastRow f row = mexL (gJ f row) (row.length + 1) from rfl, ← e]
    exact List.mem_map.mpr ⟨j, hj, rfl⟩
  · obtain ⟨j, hj, e⟩ := List.mem_map.mp (h3 k hk)
    exact ⟨j, hj, e⟩
theorem least_le (ts : Ties) : ∀ p ∈ (leastC ts).zip ts, p.1 ≤ p.2.length := by
  refine snoc_ind (P := fun ts : Ties => ∀ p ∈ (leastC ts).zip ts, p.1 ≤ p.2.length) (by simp) (fun l x ih => ?_) ts
  rw [leastC_snoc, List.zip_append (leastC_len l)]
  intro p hp
  rcases List.mem_append.mp hp with hp | hp
  · exact ih p hp
  · simp only [List.zip_cons_cons, List.zip_nil_left, List.mem_cons, List.not_mem_nil, or_false] at hp
    subst hp
    exact (leastRow_spec _ _).1
/-! ### how many are joined -/
def joinC (ts : Ties) : List Nat := (ts.foldl (fun (s : List Nat × List Nat) row => (pStep s.1 row, s.2 ++ [(pStep s.1 row).count s.1.length])) ([], [])).2
theorem joinC_fst (ts : Ties) : (ts.foldl (fun (s : List Nat × List Nat) row => (pStep s.1 row, s.2 ++ [(pStep s.1 row).count s.1.length])) ([], [])).1 = partC ts := by
  refine snoc_ind (P := fun ts : Ties => (ts.foldl (fun (s : List Nat × List Nat) row => (pStep s.1 row, s.2 ++ [(pStep s.1 row).count s.1.length])) ([], [])).1 = partC ts) rfl (fun l x ih => ?_) ts
  rw [List.foldl_append, partC_snoc, ← ih]; rfl
theorem joinC_snoc (l : Ties) (x : List Nat) : joinC (l ++ [x]) = joinC l ++ [(pStep (partC l) x).count l.length] := by
  conv => lhs; unfold joinC
  rw [List.foldl_append]
  show _ ++ [_] = _
  rw [joinC_fst, partC_len]; rfl
theorem joinC_len (ts : Ties) : (joinC ts).length = ts.length := by
  refine snoc_ind (P := fun ts : Ties => (joinC ts).length = ts.length) rfl (fun l x ih => ?_) ts
  simp [joinC_snoc, ih]
theorem pStep_count {p row : List Nat} (hp : ∀ q ∈ p, q < p.length) (hn : (gJ p row).Nodup) : (pStep p row).count p.length = ((gJ p row).map fun x => p.count x).sum + 1 := by
  unfold pStep
  rw [List.count_append, List.count_singleton_self, ← countP_in hn p, List.count_eq_countP, List.countP_map]
  congr 1
  apply List.countP_congr
  intro q hq
  have := hp q hq
  simp only [Function.comp, beq_iff_eq, decide_eq_true_eq]
  by_cases k : q ∈ gJ p row
  · simp [k]
  · simp only [k, if_false, iff_false]; omega
theorem pStep_getD {p row : List Nat} {j : Nat} (h : j < p.length) : (pStep p row).getD j 0 = if p.getD j 0 ∈ gJ p row then p.length else p.getD j 0 := by
  unfold pStep
  rw [getD_app_lt (by rw [List.length_map]; exact h), getD_map (d := 0) h]
theorem pStep_getD_new {p row : List Nat} : (pStep p row).getD p.length 0 = p.length := by
  unfold pStep
  rw [getD_app_eq (by rw [List.length_map])]
theorem forest_size {ts : Ties} (hv : Vd ts) (hf : Fo ts) : (∀ k < ts.length, 2 ^ (leastC ts).getD k 0 ≤ (partC ts).count ((partC ts).getD k 0)) ∧ ∀ p ∈ (leastC ts).zip (joinC ts), 2 ^ p.1 ≤ p.2 := by
  revert hv hf
  refine snoc_ind (P := fun ts : Ties => Vd ts → Fo ts → (∀ k < ts.length, 2 ^ (leastC ts).getD k 0 ≤ (partC ts).count ((partC ts).getD k 0)) ∧ ∀ p ∈ (leastC ts).zip (joinC ts), 2 ^ p.1 ≤ p.2) (fun _ _ => ⟨by simp, by simp [leastC]⟩) (fun l x ih hv hf => ?_) ts
  obtain ⟨i1, i2⟩ := ih hv.pre hf.pre
  have hr := (Vd.last (r := []) hv).2
  have hn := Fo.last (r := []) hf
  have hlt : ∀ q ∈ partC l, q < (partC l).length := by rw [partC_len]; exact partC_lt l
  have hcnt := pStep_count hlt hn
  rw [partC_len] at hcnt
  have hbig : 2 ^ leastRow (leastC l) x ≤ (pStep (partC l) x).count l.length := by
    rw [hcnt]
    have h1 := pow_sum (leastRow (leastC l) x) (x.map fun j => (leastC l).getD j 0) fun k hk => by
      obtain ⟨j, hj, e⟩ := (leastRow_spec (leastC l) x).2.2 k hk
      exact List.mem_map.mpr ⟨j, hj, e⟩
    have h2 : ((x.map fun j => (leastC l).getD j 0).map fun c => 2 ^ c).sum ≤ ((gJ (partC l) x).map fun q => (partC l).count q).sum := by
      rw [gJ, List.map_map, List.map_map]
      exact sum_le_sum fun j hj => i1 j (hr j hj)
    omega
  constructor
  · intro k hk
    rw [partC_snoc, leastC_snoc]
    rw [List.length_append, List.length_cons, List.length_nil] at hk
    by_cases e : k = l.length
    · subst e
      rw [getD_app_eq (leastC_len l).symm]
      have hnew : (pStep (partC l) x).getD l.length 0 = l.length := by
        have := pStep_getD_new (p := partC l) (row := x)
        rwa [partC_len] at this
      rw [hnew]
      exact hbig
    · have hk' : k < l.length := by omega
      rw [getD_app_lt (by rw [leastC_len]; exact hk'), pStep_getD (by rw [partC_len]; exact hk')]
      have h1 := i1 k hk'
      split
      · rename_i hm
        rw [partC_len, hcnt]
        have hsub : (partC l).count ((partC l).getD k 0) ≤ ((gJ (partC l) x).map fun q => (partC l).count q).sum :=
          le_sum (List.mem_map.mpr ⟨_, hm, rfl⟩)
        omega
      · rename_i hm
        refine Nat.le_trans h1 ?_
        unfold pStep
        rw [List.count_append]
        refine Nat.le_trans ?_ (Nat.le_add_right _ _)
        rw [List.count_eq_countP, List.count_eq_countP, List.countP_map]
        refine List.countP_mono_left fun q hq hqe => ?_
        have : q = (partC l).getD k 0 := by simpa using hqe
        simp only [Function.comp, this, if_neg hm, beq_self_eq_true]
  · rw [leastC_snoc, joinC_snoc, List.zip_append (by rw [leastC_len, joinC_len])]
    intro p hp
    rcases List.mem_append.mp hp with hp | hp
    · exact i2 p hp
    · simp only [List.zip_cons_cons, List.zip_nil_left, List.mem_cons, List.not_mem_nil, or_false] at hp
      subst hp
      exact hbig
/-! ### two colours -/
def tStep (p : List Nat) (c : List Int) (row : List Nat) : List Int :=
  (c.zip p).map (fun q => if q.2 ∈ (row.filter fun j => decide (c.getD j 0 = 0)).map fun j => p.getD j 0 then 1 - q.1 else q.1) ++ [0]
def twoC (ts : Ties) : List Int := (ts.foldl (fun (s : List Nat × List Int) row => (pStep s.1 row, tStep s.1 s.2 row)) ([], [])).2
theorem twoC_fst (ts : Ties) : (ts.foldl (fun (s : List Nat × List Int) row => (pStep s.1 row, tStep s.1 s.2 row)) ([], [])).1 = partC ts := by
  refine snoc_ind (P := fun ts : Ties => (ts.foldl (fun (s : List Nat × List Int) row => (pStep s.1 row, tStep s.1 s.2 row)) ([], [])).1 = partC ts) rfl (fun l x ih => ?_) ts
  rw [List.foldl_append, partC_snoc, ← ih]; rfl
theorem twoC_snoc (l : Ties) (x : List Nat) : twoC (l ++ [x]) = tStep (partC l) (twoC l) x := by
  conv => lhs; unfold twoC
  rw [List.foldl_append]
  show tStep _ _ _ = _
  rw [twoC_fst]; rfl
theorem twoC_len (ts : Ties) : (twoC ts).length = ts.length := by
  refine snoc_ind (P := fun ts : Ties => (twoC ts).length = ts.length) rfl (fun l x ih => ?_) ts
  rw [twoC_snoc, tStep]
  simp [ih, partC_len]
theorem twoC_01 (ts : Ties) : ∀ c ∈ twoC ts, c = 0 ∨ c = 1 := by
  refine snoc_ind (P := fun ts : Ties => ∀ c ∈ twoC ts, c = 0 ∨ c = 1) (by simp [twoC]) (fun l x ih => ?_) ts
  rw [twoC_snoc, tStep]
  intro c hc
  rcases List.mem_append.mp hc with hc | hc
  · obtain ⟨q, hq, rfl⟩ := List.mem_map.mp hc
    have := ih q.1 (List.of_mem_zip hq).1
    split <;> omega
  · simp only [List.mem_cons, List.not_mem_nil, or_false] at hc
    exact .inl hc
theorem tStep_getD {p : List Nat} {c : List Int} {row : List Nat} {j : Nat} (h : c.length = p.length) (hj : j < p.length) :
    (tStep p c row).getD j 0 = if p.getD j 0 ∈ (row.filter fun j => decide (c.getD j 0 = 0)).map fun j => p.getD j 0 then 1 - c.getD j 0 else c.getD j 0 := by
  unfold tStep
  have hz : j < (c.zip p).length := by simp; omega
  rw [getD_app_lt (by rw [List.length_map]; exact hz), getD_map (d := (0, 0)) hz]
  have e : (c.zip p).getD j (0, 0) = (c.getD j 0, p.getD j 0) := by
    simp [List.getD, List.getElem?_eq_getElem hz, List.getElem?_eq_getElem hj, List.getElem?_eq_getElem (show j < c.length by omega), List.getElem_zip]
  rw [e]
theorem two_proper {ts : Ties} (hv : Vd ts) (hf : Fo ts) : ∀ l x r, ts = l ++ x :: r → ∀ j ∈ x, (partC ts).getD j 0 = (partC ts).getD l.length 0 ∧ (twoC ts).getD j 0 ≠ (twoC ts).getD l.length 0 := by
  revert hv hf
  refine snoc_ind (P := fun ts : Ties => Vd ts → Fo ts → ∀ l x r, ts = l ++ x :: r → ∀ j ∈ x, (partC ts).getD j 0 = (partC ts).getD l.length 0 ∧ (twoC ts).getD j 0 ≠ (twoC ts).getD l.length 0) (fun _ _ l x r e => by simp at e) (fun m y ih hv hf l x r e j hj => ?_) ts
  have hr := (Vd.last (r := []) hv).2
  have hn := Fo.last (r := []) hf
  have hlen : (twoC m).length = (partC m).length := by rw [twoC_len, partC_len]
  have h01 := twoC_01 m
  rw [partC_snoc, twoC_snoc]
  have new2 : (tStep (partC m) (twoC m) y).getD m.length 0 = 0 := by
    unfold tStep
    exact getD_app_eq (by simp [twoC_len, partC_len])
  have newp : (pStep (partC m) y).getD m.length 0 = m.length := by
    have := pStep_getD_new (p := partC m) (row := y)
    rwa [partC_len] at this
  rcases snoc_split e with ⟨_, rfl, rfl⟩ | ⟨r', _, rfl⟩
  · have hjl : j < l.length := hr j hj
    have hjp : j < (partC l).length := by rw [partC_len]; exact hjl
    rw [new2, newp, pStep_getD hjp, tStep_getD hlen hjp]
    have hm : (partC l).getD j 0 ∈ gJ (partC l) x := List.mem_map.mpr ⟨j, hj, rfl⟩
    rw [if_pos hm, partC_len]
    refine ⟨rfl, ?_⟩
    have hc := h01 _ (getD_mem (l := twoC l) (d := 0) (show j < (twoC l).length by rw [hlen]; exact hjp))
    rcases hc with hc | hc
    · rw [if_pos (List.mem_map.mpr ⟨j, List.mem_filter.mpr ⟨hj, by simpa using hc⟩, rfl⟩), hc]; decide
    · rw [if_neg, hc]
      · decide
      · intro q
        obtain ⟨k, hk, ek⟩ := List.mem_map.mp q
        obtain ⟨hk1, hk2⟩ := List.mem_filter.mp hk
        have hkj : k = j := by
          have inj := (fun {a b : Nat} => inj_of_nodup (f := fun j => (partC l).getD j 0) (l := x) (a := a) (b := b) hn)
          exact inj hk1 hj ek
        subst hkj
        rw [hc] at hk2
        exact absurd hk2 (by decide)
  · obtain ⟨k1, k2⟩ := ih hv.pre hf.pre l x r' rfl j hj
    have hjl : j < l.length := (hv l x (r' ++ [y]) (by simp)).2 j hj
    have hl : l.length < (partC (l ++ x :: r')).length := by rw [partC_len]; simp
    have hjp : j < (partC (l ++ x :: r')).length := by omega
    rw [pStep_getD hjp, pStep_getD hl, tStep_getD hlen hjp, tStep_getD hlen hl, k1]
    refine ⟨rfl, ?_⟩
    split <;> omega
/-! ### the first repeated part -/
def Tw (n : Nat) (done : Ties) (t : Nat) : Prop := (t = n ∧ Fo done) ∨ (t < done.length ∧ Fo (done.take t) ∧ ¬ Fo (done.take (t + 1)))
theorem Tw.fo {ts : Ties} {t : Nat} (h : Tw ts.length ts t) : (t = ts.length ↔ Fo ts) ∧ ∀ k, k ≤ ts.length → (Fo (ts.take k) ↔ k ≤ t) := by
  have mono : ∀ {a b : Nat}, a ≤ b → Fo (ts.take b) → Fo (ts.take a) := fun {a b} h f => by
    have : ts.take b = ts.take a ++ (ts.take b).drop a := by
      conv => lhs; rw [← List.take_append_drop a (ts.take b)]
      rw [List.take_take, Nat.min_eq_left h]
    rw [this] at f
    exact f.pre
  have full : Fo (ts.take ts.length) ↔ Fo ts := by rw [List.take_length]
  rcases h with ⟨rfl, f⟩ | ⟨h1, h2, h3⟩
  · exact ⟨⟨fun _ => f, fun _ => rfl⟩, fun k hk => ⟨fun _ => hk, fun _ => mono hk (full.mpr f)⟩⟩
  · refine ⟨⟨fun e => by omega, fun f => absurd (mono (by omega) (full.mpr f)) h3⟩, fun k hk => ⟨fun f => ?_, fun h => mono h h2⟩⟩
    rcases Nat.lt_or_ge t k with q | q
    · exact absurd (mono (by omega) f) h3
    · exact q
theorem Tw.step {n : Nat} {l : Ties} {x : List Nat} {t : Nat} (h : Tw n l t) (hl : l.length < n) : Tw n (l ++ [x]) (if t = n ∧ ¬ (gJ (partC l) x).Nodup then l.length else t) := by
  rcases h with ⟨rfl, f⟩ | ⟨h1, h2, h3⟩
  · by_cases q : (gJ (partC l) x).Nodup
    · rw [if_neg (fun z => z.2 q)]
      exact .inl ⟨rfl, f.snoc q⟩
    · rw [if_pos ⟨rfl, q⟩]
      refine .inr ⟨by simp, ?_, fun z => ?_⟩
      · rw [List.take_left]; exact f
      · rw [List.take_of_length_le (by simp)] at z
        exact q (Fo.last (r := []) z)
  · rw [if_neg (fun z => by omega)]
    refine .inr ⟨by simp; omega, ?_, ?_⟩
    · rw [List.take_append_of_le_length (by omega)]; exact h2
    · rw [List.take_append_of_le_length (by omega)]; exact h3
end Mx

set_option Elab.async false
set_option linter.all false
set_option maxRecDepth 100000
set_option autoImplicit false
/-! Mz32: loops by enumerate; how many unlike numbers. -/
namespace Mz
open PySem PySem.Spec L2
open PyProof.Rows hiding St
theorem x_st0 (z : Z) (K : Z → Prop) : wR (stoL z [] []) K = K z := wR_some _ _
theorem x_std (z : Z) (i : Nat) (is : List Nat) (x : PyData) (ws : List R) (K : Z → Prop) : wR (stoL z (i :: is) (.d x :: ws)) K = (canS z.r[i]? = true ∧ wR (stoL ⟨z.r.set i (.val x), z.b⟩ is ws) K) := by
  rw [stoL_cons, stoR_d, wR_bind, wR_ifc]
theorem x_stn (z : Z) (i : Nat) (is : List Nat) (xs : List PyData) (ws : List R) (K : Z → Prop) : wR (stoL z (i :: is) (.nw xs :: ws)) K = (canS z.r[i]? = true ∧ wR (stoL ⟨z.r.set i (.own xs), z.b⟩ is ws) K) := by
  rw [stoL_cons, stoR_nw, wR_bind, wR_ifc]
def EnTurn {α : Type} (xs : List α) (enc : α → PyData) (I : List α → Z → Prop) (t : Tg) (body : MS) (Q : Fl → Prop) : Prop :=
  ∀ done x rest zc, xs = done ++ x :: rest → I done zc → wT t (.tuple [nD done.length, enc x]) zc fun z1 => wS body z1 (forK (fun z2 => I (done ++ [x]) z2) Q)
def KEnu {α : Type} (xs : List α) (enc : α → PyData) (I : List α → Z → Prop) (t : Tg) (body : MS) (Q : Fl → Prop) (items : List PyData) (lks : List Nat) (z1 : Z) : Prop :=
  items = enumD (xs.map enc) ∧ I [] ⟨lockR z1.r lks, z1.b⟩ ∧ EnTurn xs enc I t body (fun f => Q (frl z1 lks f)) ∧ ForExit xs I (fun f => Q (frl z1 lks f))
theorem zipIdx_split {α : Type} {ts : List α} {done rest : List (α × Nat)} {x : α × Nat} (e : ts.zipIdx = done ++ x :: rest) : x.2 = done.length ∧ ts = done.map (·.1) ++ x.1 :: rest.map (·.1) := by
  have h : ts.zipIdx[done.length]? = some x := by rw [e]; simp
  rw [List.getElem?_zipIdx] at h
  obtain ⟨y, h1, h2⟩ := Option.map_eq_some_iff.mp h
  have h3 := congrArg (List.map (·.1)) e
  rw [List.zipIdx_map_fst, List.map_append, List.map_cons] at h3
  subst h2
  exact ⟨by simp, h3⟩
theorem wS_enum {it : MI} {t : Tg} {body : MS} {z : Z} {Q : Fl → Prop} {α : Type} (xs : List α) (enc : α → PyData) (I : List α → Z → Prop)
    (h : wI it z (KEnu xs enc I t body Q)) : wS (forS it t body) z Q := by
  refine wS_for xs.zipIdx (fun p => .tuple [nD p.2, enc p.1]) (fun done z => I (done.map (·.1)) z) (wR_mono h fun w ⟨h1, h2, h3, h4⟩ => ⟨by rw [h1, enum_map], h2, ?_, ?_⟩)
  · intro done x rest zc hx hI
    obtain ⟨e1, e2⟩ := zipIdx_split hx
    have := h3 _ _ _ zc e2 hI
    rw [List.length_map, ← e1] at this
    simp only [List.map_append, List.map_cons, List.map_nil]
    exact this
  · intro ze hI
    rw [List.zipIdx_map_fst] at hI
    exact h4 ze hI
theorem lens {α : Type} {ts done rest : List α} {x : α} (h : ts = done ++ x :: rest) : done.length < ts.length := by
  rw [h]; simp
theorem keys_f {α : Type} (f : α → Int) (g : α → PyData) (xs : List α) : keysI (xs.map fun x => .tuple [.int (f x), g x]) = some (xs.map f) := by
  induction xs with
  | nil => rfl
  | cons a r ih =>
    show (keysI (r.map fun x => .tuple [.int (f x), g x])).map (f a :: ·) = _
    rw [ih]; rfl
theorem dst_nat (l : List Nat) : dst (l.map fun j : Nat => (j : Int)) = Mx.card l := by
  have key : ∀ (l σ : List Nat), σ.Nodup → ∃ τ : List Nat, ((l.map fun j : Nat => (j : Int)).foldl step_dedup (σ.map fun j : Nat => (j : Int))) = τ.map (fun j : Nat => (j : Int)) ∧ τ.Nodup ∧ ∀ x, x ∈ τ ↔ x ∈ σ ∨ x ∈ l := by
    intro l
    induction l with
    | nil => intro σ h; exact ⟨σ, rfl, h, by simp⟩
    | cons a r ih =>
      intro σ h
      have e : step_dedup (σ.map fun j : Nat => (j : Int)) (a : Int) = (if a ∈ σ then σ else σ ++ [a]).map fun j : Nat => (j : Int) := by
        unfold step_dedup
        have : ((σ.map fun j : Nat => (j : Int)).any fun x => x == (a : Int)) = decide (a ∈ σ) := by
          rw [Bool.eq_iff_iff]
          simp only [List.any_eq_true, List.mem_map, beq_iff_eq, decide_eq_true_eq]
          refine ⟨fun ⟨x, ⟨y, hy, e1⟩, e2⟩ => ?_, fun h => ⟨_, ⟨a, h, rfl⟩, rfl⟩⟩
          have : y = a := by omega
          exact this ▸ hy
        rw [this]
        by_cases q : a ∈ σ
        · simp [q]
        · simp [q]
      rw [List.map_cons, List.foldl_cons, e]
      obtain ⟨τ, h1, h2, h3⟩ := ih (if a ∈ σ then σ else σ ++ [a]) (by
        by_cases q : a ∈ σ
        · rw [if_pos q]; exact h
        · rw [if_neg q]; exact List.nodup_append.mpr ⟨h, by simp, by intro x hx y hy; simp at hy; subst hy; exact fun z => q (z ▸ hx)⟩)
      refine ⟨τ, h1, h2, fun x => ?_⟩
      rw [h3]
      by_cases q : a ∈ σ
      · rw [if_pos q]
        exact ⟨fun k => k.elim .inl fun k => .inr (List.mem_cons_of_mem _ k), fun k => k.elim .inl fun k => (List.mem_cons.mp k).elim (fun k => .inl (k ▸ q)) .inr⟩
      · rw [if_neg q]
        simp only [List.mem_append, List.mem_cons, List.not_mem_nil, or_false, or_assoc]
  obtain ⟨τ, h1, h2, h3⟩ := key l [] List.nodup_nil
  unfold dst
  rw [show ([] : List Int) = ([] : List Nat).map (fun j : Nat => (j : Int)) from rfl, h1, List.length_map, ← Mx.card_nodup h2]
  exact Mx.card_congr fun x => by rw [h3]; simp
/-- an assertion behind a loop that may break -/
def QE (E : Z → Prop) (Q : Fl → Prop) : Fl → Prop
  | .nx z => E z
  | .rt r b => Q (.rt r b)
  | _ => False
theorem x_qen (E : Z → Prop) (Q : Fl → Prop) (z : Z) : QE E Q (.nx z) = E z := rfl
theorem x_qer (E : Z → Prop) (Q : Fl → Prop) (r : R) (b : Bg) : QE E Q (.rt r b) = Q (.rt r b) := rfl
theorem wS_mid {m : MS} {z : Z} {Q : Fl → Prop} (E : Z → Prop) (h : wS m z (QE E Q)) (k : ∀ z, E z → Q (.nx z)) : wS m z Q := by
  refine wR_mono h fun f hf => ?_
  cases f with
  | nx z => exact k z hf
  | rt r b => exact hf
  | bk z => exact hf.elim
  | ct z => exact hf.elim
end Mz

set_option Elab.async false
set_option linter.all false
set_option autoImplicit false
namespace k83_whole_forests_towers
open PySem PySem.Spec L2 Mz
set_option maxRecDepth 100000
def stm (i : Nat) : Stmt := PySem.Challenge.pw_answernow_k83_whole_forests_towers.main.body.getD i (.Pass ⟨0, 0, 0, 0⟩)
def d_is_integer : Df := ⟨"is_integer", "is_integer", ["value"], [1], ["value"],
  (.cons (.ret (.and (.cons (.isi .int (.var 0)) (.cons (.not (.isi .bool (.var 0))) .nil))))
  .nil)⟩
def d_is_whole : Df := ⟨"is_whole", "is_whole", ["value", "low", "high"], [3], ["value", "low", "high"],
  (.cons (.ret (.and (.cons (.call "is_integer" (.cons (.var 0) .nil) .nil) (.cons (.chain .LtE .LtE (.var 1) (.var 0) (.var 2)) .nil))))
  .nil)⟩
def d_is_tuple : Df := ⟨"is_tuple", "is_tuple", ["value", "many"], [2], ["value", "many"],
  (.cons (.ret (.and (.cons (.isi .tuple (.var 0)) (.cons (.cmp .Eq (.bi .len (.cons (.var 0) .nil)) (.var 1)) .nil))))
  .nil)⟩
def d_are_places : Df := ⟨"are_places", "are_places", ["value", "below"], [2], ["value", "below", "one", "other", "item"],
  (.cons (.cond (.or (.cons (.not (.isi .tuple (.var 0))) (.cons (.not (.bi .all (.cons (.comp (.val (.var 0)) (.nm 4) (.cst (.bool true)) (.call "is_whole" (.cons (.var 4) (.cons (.cst (.int 0)) (.cons (.bin .Sub (.var 1) (.cst (.int 1))) .nil))) .nil) [("item", 4)]) .nil))) .nil))) (.cons (.ret (.cst (.bool false)))
  .nil) .nil)
  (.cons (.ret (.bi .all (.cons (.comp (.zip (.slcH (.var 0) (.neg (.cst (.int 1)))) (.slcL (.var 0) (.cst (.int 1)))) (.tup (.cons (.nm 2) (.cons (.nm 3) .nil))) (.cst (.bool true)) (.cmp .Lt (.var 2) (.var 3)) [("one", 2), ("other", 3)]) .nil)))
  .nil))⟩
def d_power_of : Df := ⟨"power_of", "power_of", ["base", "times"], [2], ["base", "times", "found", "turn"],
  (.cons (.set 2 (.cst (.int 1)))
  (.cons (.loop (.rg1 (.var 1)) (.nm 3) (.cons (.set 2 (.bin .Mult (.var 2) (.var 0)))
  .nil))
  (.cons (.ret (.var 2))
  .nil)))⟩
def d_ties_error : Df := ⟨"ties_error", "ties_error", ["value"], [0, 1], ["value", "i", "own"],
  (.cons (.cond (.or (.cons (.not (.isi .tuple (.var 0))) (.cons (.cmp .Gt (.bi .len (.cons (.var 0) .nil)) (.glob "MAX_KNOTS" 64)) (.cons (.not (.bi .all (.cons (.comp (.val (.var 0)) (.nm 2) (.cst (.bool true)) (.isi .tuple (.var 2)) [("own", 2)]) .nil))) .nil)))) (.cons (.ret (.cst (.str "form")))
  .nil) .nil)
  (.cons (.loop (.enum (.var 0)) (.tup (.cons (.nm 1) (.cons (.nm 2) .nil))) (.cons (.cond (.not (.call "are_places" (.cons (.var 2) (.cons (.var 1) .nil)) .nil)) (.cons (.ret (.tup (.cons (.cst (.str "knot")) (.cons (.var 1) .nil))))
  .nil) .nil)
  .nil))
  (.cons (.ret (.cst .none))
  .nil)))⟩
def d_is_forest : Df := ⟨"is_forest", "is_forest", ["ties"], [0, 1], ["ties", "parts", "i", "own", "met", "j", "part"],
  (.cons (.set 1 (.lst .nil))
  (.cons (.loop (.enum (.var 0)) (.tup (.cons (.nm 2) (.cons (.nm 3) .nil))) (.cons (.set 4 (.comp (.val (.var 3)) (.nm 5) (.cst (.bool true)) (.idx (.var 1) (.var 5)) [("j", 5)]))
  (.cons (.cond (.cmp .Lt (.ldict (.comp (.val (.var 4)) (.nm 6) (.cst (.bool true)) (.tup (.cons (.var 6) (.cons (.cst (.bool true)) .nil))) [("part", 6)])) (.bi .len (.cons (.var 4) .nil))) (.cons (.ret (.cst (.bool false)))
  .nil) .nil)
  (.cons (.set 1 (.bin .Add (.comp (.val (.var 1)) (.nm 6) (.cst (.bool true)) (.ite (.cmp .In (.var 6) (.var 4)) (.var 2) (.var 6)) [("part", 6)]) (.lst (.cons (.var 2) .nil))))
  .nil))))
  (.cons (.ret (.cst (.bool true)))
  .nil)))⟩
def d_least_colours : Df := ⟨"least_colours", "least_colours", ["ties"], [0, 1], ["ties", "found", "own", "taken", "j", "colour"],
  (.cons (.set 1 (.lst .nil))
  (.cons (.loop (.val (.var 0)) (.nm 2) (.cons (.set 3 (.comp (.val (.var 2)) (.nm 4) (.cst (.bool true)) (.idx (.var 1) (.var 4)) [("j", 4)]))
  (.cons (.expr (.app 1 (.bi .min (.cons (.comp (.rg1 (.bin .Add (.bi .len (.cons (.var 2) .nil)) (.cst (.int 1)))) (.nm 5) (.cmp .NotIn (.var 5) (.var 3)) (.var 5) [("colour", 5)]) .nil))))
  .nil)))
  (.cons (.ret (.bi .tuple (.cons (.var 1) .nil)))
  .nil)))⟩
def d_colours_error : Df := ⟨"colours_error", "colours_error", ["ties", "value"], [0, 2], ["ties", "value", "i", "own", "j", "item"],
  (.cons (.cond (.or (.cons (.not (.call "is_tuple" (.cons (.var 1) (.cons (.bi .len (.cons (.var 0) .nil)) .nil)) .nil)) (.cons (.not (.bi .all (.cons (.comp (.val (.var 1)) (.nm 5) (.cst (.bool true)) (.and (.cons (.call "is_integer" (.cons (.var 5) .nil) .nil) (.cons (.cmp .GtE (.var 5) (.cst (.int 0))) .nil))) [("item", 5)]) .nil))) .nil))) (.cons (.ret (.cst (.str "form")))
  .nil) .nil)
  (.cons (.loop (.enum (.var 0)) (.tup (.cons (.nm 2) (.cons (.nm 3) .nil))) (.cons (.loop (.val (.var 3)) (.nm 4) (.cons (.cond (.cmp .Eq (.idx (.var 1) (.var 2)) (.idx (.var 1) (.var 4))) (.cons (.ret (.tup (.cons (.cst (.str "tie")) (.cons (.var 2) (.cons (.var 4) .nil)))))
  .nil) .nil)
  .nil))
  .nil))
  (.cons (.ret (.cst .none))
  .nil)))⟩
def d_two_colours : Df := ⟨"two_colours", "two_colours", ["ties"], [0, 1], ["ties", "parts", "found", "i", "own", "turned", "met", "j", "part", "colour"],
  (.cons (.par [1, 2] (.cons (.lst .nil) (.cons (.lst .nil) .nil)))
  (.cons (.loop (.enum (.var 0)) (.tup (.cons (.nm 3) (.cons (.nm 4) .nil))) (.cons (.set 5 (.comp (.val (.var 4)) (.nm 7) (.cmp .Eq (.idx (.var 2) (.var 7)) (.cst (.int 0))) (.idx (.var 1) (.var 7)) [("j", 7)]))
  (.cons (.set 6 (.comp (.val (.var 4)) (.nm 7) (.cst (.bool true)) (.idx (.var 1) (.var 7)) [("j", 7)]))
  (.cons (.set 2 (.bin .Add (.comp (.zip (.var 2) (.var 1)) (.tup (.cons (.nm 9) (.cons (.nm 8) .nil))) (.cst (.bool true)) (.ite (.cmp .In (.var 8) (.var 5)) (.bin .Sub (.cst (.int 1)) (.var 9)) (.var 9)) [("colour", 9), ("part", 8)]) (.lst (.cons (.cst (.int 0)) .nil))))
  (.cons (.set 1 (.bin .Add (.comp (.val (.var 1)) (.nm 8) (.cst (.bool true)) (.ite (.cmp .In (.var 8) (.var 6)) (.var 3) (.var 8)) [("part", 8)]) (.lst (.cons (.var 3) .nil))))
  .nil)))))
  (.cons (.ret (.bi .tuple (.cons (.var 2) .nil)))
  .nil)))⟩
def d_colour_tower : Df := ⟨"colour_tower", "colour_tower", ["c"], [0, 1], ["c", "lesser", "found", "tops", "base", "own", "j"],
  (.cons (.par [2, 3] (.cons (.lst .nil) (.cons (.lst .nil) .nil)))
  (.cons (.loop (.rg1 (.var 0)) (.nm 1) (.cons (.set 4 (.bi .len (.cons (.var 2) .nil)))
  (.cons (.expr (.ext 2 (.comp (.val (.call "colour_tower" (.cons (.var 1) .nil) .nil)) (.nm 5) (.cst (.bool true)) (.bi .tuple (.cons (.comp (.val (.var 5)) (.nm 6) (.cst (.bool true)) (.bin .Add (.var 6) (.var 4)) [("j", 6)]) .nil)) [("own", 5)])))
  (.cons (.expr (.app 3 (.bin .Sub (.bi .len (.cons (.var 2) .nil)) (.cst (.int 1)))))
  .nil))))
  (.cons (.ret (.bin .Add (.bi .tuple (.cons (.var 2) .nil)) (.tup (.cons (.bi .tuple (.cons (.var 3) .nil)) .nil))))
  .nil)))⟩
def d_fewest_knots : Df := ⟨"fewest_knots", "fewest_knots", ["c"], [0, 1], ["c"],
  (.cons (.ret (.call "power_of" (.cons (.cst (.int 2)) (.cons (.var 0) .nil)) .nil))
  .nil)⟩
def d__law_bag : Df := ⟨"_law_bag", "_law_bag", ["script"], [1], ["script", "cells", "mixed", "cell"],
  (.cons (.set 2 (.bin .Add (.cst (.int 2468)) (.bi .len (.cons (.var 1) .nil))))
  (.cons (.loop (.val (.var 1)) (.nm 3) (.cons (.set 2 (.bin .Mod (.bi .int (.cons (.bin .Add (.bin .Add (.bin .Mult (.var 2) (.cst (.int 48271))) (.bin .Mod (.bi .int (.cons (.var 3) .nil)) (.cst (.int 2147483629)))) (.cst (.int 7))) .nil)) (.cst (.int 2147483647))))
  .nil))
  (.cons (.ret (.lst (.cons (.lrev (.var 1)) (.cons (.cst (.int 0)) (.cons (.var 2) .nil)))))
  .nil)))⟩
def bagEl : Ex := (.bin .Mod (.bi .int (.cons (.bi .abs (.cons (.var 3) .nil)) .nil)) (.bin .Pow (.cst (.int 10)) (.cst (.int 60))))
def bagT : Tg := (.nm 3)
def bagOwn : List (Str × Nat) := [("cell", 3)]
def d__law_draw : Df := ⟨"_law_draw", "_law_draw", ["bag", "below"], [2], ["bag", "below", "k", "cell", "found"],
  (.cons (.loop (.rg1 (.cst (.int 64))) (.nm 2) (.cons (.cond (.or (.cons (.cmp .Gt (.bix 0 false) (.cst (.int 0))) (.cons (.bnil 0) .nil))) (.cons .brk
  .nil) .nil)
  (.cons (.set 3 (.bpop 0))
  (.cons (.bset 0 false (.ite (.cmp .Gt (.var 3) (.bin .Pow (.cst (.int 10)) (.cst (.int 9)))) (.var 3) (.cst (.int 0))))
  .nil))))
  (.cons (.cond (.cmp .Gt (.bix 0 false) (.cst (.int 0))) (.cons (.set 4 (.bin .Mod (.bi .int (.cons (.bix 0 false) .nil)) (.var 1)))
  (.cons (.bset 0 false (.bin .FloorDiv (.bi .int (.cons (.bix 0 false) .nil)) (.var 1)))
  (.cons (.ret (.var 4))
  .nil))) .nil)
  (.cons (.bset 0 true (.bin .Mod (.bi .int (.cons (.bin .Add (.bin .Mult (.bix 0 true) (.cst (.int 48271))) (.cst (.int 11))) .nil)) (.cst (.int 2147483647))))
  (.cons (.ret (.bin .Mod (.bin .FloorDiv (.bin .Mod (.bi .int (.cons (.bin .Mult (.bix 0 true) (.bix 0 true)) .nil)) (.cst (.int 2147483629))) (.cst (.int 7))) (.var 1)))
  .nil))))⟩
def d__law_pick : Df := ⟨"_law_pick", "_law_pick", ["bag", "some"], [2], ["bag", "some"],
  (.cons (.ret (.idx (.var 1) (.call "_law_draw" (.cons (.var 0) (.cons (.bi .len (.cons (.var 1) .nil)) .nil)) .nil)))
  .nil)⟩
def d__law_int : Df := ⟨"_law_int", "_law_int", ["x"], [1], ["x"],
  (.cons (.ret (.and (.cons (.isi .int (.var 0)) (.cons (.not (.isi .bool (.var 0))) .nil))))
  .nil)⟩
def d__law_same : Df := ⟨"_law_same", "_law_same", ["one", "due"], [2], ["one", "due", "x", "y"],
  (.cons (.cond (.and (.cons (.isi .int (.var 1)) (.cons (.not (.isi .bool (.var 1))) .nil))) (.cons (.ret (.and (.cons (.isi .int (.var 0)) (.cons (.not (.isi .bool (.var 0))) (.cons (.cmp .Eq (.var 0) (.var 1)) .nil)))))
  .nil) .nil)
  (.cons (.cond (.isi .tuple (.var 1)) (.cons (.cond (.or (.cons (.not (.isi .tuple (.var 0))) (.cons (.cmp .NotEq (.bi .len (.cons (.var 0) .nil)) (.bi .len (.cons (.var 1) .nil))) .nil))) (.cons (.ret (.cst (.bool false)))
  .nil) .nil)
  (.cons (.ret (.bi .all (.cons (.comp (.zip (.var 0) (.var 1)) (.tup (.cons (.nm 2) (.cons (.nm 3) .nil))) (.cst (.bool true)) (.call "_law_same" (.cons (.var 2) (.cons (.var 3) .nil)) .nil) [("x", 2), ("y", 3)]) .nil)))
  .nil)) .nil)
  (.cons (.cond (.isc false .non (.var 1)) (.cons (.ret (.isc false .non (.var 0)))
  .nil) .nil)
  (.cons (.cond (.isc false (.bl true) (.var 1)) (.cons (.ret (.isc false (.bl true) (.var 0)))
  .nil) .nil)
  (.cons (.cond (.isc false (.bl false) (.var 1)) (.cons (.ret (.isc false (.bl false) (.var 0)))
  .nil) .nil)
  (.cons (.ret (.and (.cons (.isi .str (.var 0)) (.cons (.isi .str (.var 1)) (.cons (.cmp .Eq (.var 0) (.var 1)) .nil)))))
  .nil))))))⟩
def d__law_odd : Df := ⟨"_law_odd", "_law_odd", ["bag"], [1], ["bag"],
  (.cons (.ret (.call "_law_pick" (.cons (.var 0) (.cons (.lst (.cons (.cst .none) (.cons (.cst (.bool true)) (.cons (.cst (.bool false)) (.cons (.cst (.str "")) (.cons (.cst (.str "0")) (.cons (.cst (.str "form")) (.cons (.cst (.int 0)) (.cons (.neg (.cst (.int 1))) (.cons (.bin .Pow (.cst (.int 10)) (.cst (.int 39))) (.cons (.tup .nil) (.cons (.tup (.cons (.tup .nil) .nil)) (.cons (.lst (.cons (.cst (.int 0)) .nil)) (.cons (.lst .nil) (.cons .dict0 (.cons (.dict1 "a" 1) (.cons (.tup (.cons (.lst (.cons (.cst (.int 0)) .nil)) .nil)) (.cons (.tup (.cons (.cst .none) .nil)) (.cons (.tup (.cons (.cst (.int 0)) (.cons (.cst (.int 0)) .nil))) (.cons (.tup (.cons (.cst (.bool true)) (.cons (.cst (.bool false)) .nil))) (.cons (.tup (.cons (.cst (.str "0")) .nil)) .nil))))))))))))))))))))) .nil)) .nil))
  .nil)⟩
def d__law_other : Df := ⟨"_law_other", "_law_other", ["bag", "x", "deep"], [3], ["bag", "x", "deep", "way", "at", "swapped"],
  (.cons (.set 3 (.call "_law_draw" (.cons (.var 0) (.cons (.cst (.int 12)) .nil)) .nil))
  (.cons (.cond (.and (.cons (.isi .tuple (.var 1)) (.cons (.cmp .NotEq (.var 1) (.tup .nil)) (.cons (.cmp .Lt (.var 3) (.cst (.int 7))) (.cons (.cmp .Gt (.var 2) (.cst (.int 0))) .nil))))) (.cons (.set 4 (.call "_law_pick" (.cons (.var 0) (.cons (.lst (.cons (.cst (.int 0)) (.cons (.bin .Sub (.bi .len (.cons (.var 1) .nil)) (.cst (.int 1))) (.cons (.bin .Sub (.bi .len (.cons (.var 1) .nil)) (.cst (.int 1))) (.cons (.call "_law_draw" (.cons (.var 0) (.cons (.bi .len (.cons (.var 1) .nil)) .nil)) .nil) .nil))))) .nil)) .nil))
  (.cons (.ret (.bin .Add (.bin .Add (.slcH (.var 1) (.var 4)) (.tup (.cons (.call "_law_other" (.cons (.var 0) (.cons (.idx (.var 1) (.var 4)) (.cons (.bin .Sub (.var 2) (.cst (.int 1))) .nil))) .nil) .nil))) (.slcL (.var 1) (.bin .Add (.var 4) (.cst (.int 1))))))
  .nil)) .nil)
  (.cons (.cond (.and (.cons (.isi .tuple (.var 1)) (.cons (.cmp .Lt (.var 3) (.cst (.int 11))) .nil))) (.cons (.set 4 (.call "_law_draw" (.cons (.var 0) (.cons (.bin .Add (.bi .len (.cons (.var 1) .nil)) (.cst (.int 1))) .nil)) .nil))
  (.cons (.set 5 (.bin .Add (.bin .Add (.slcH (.var 1) (.var 4)) (.bi .tuple (.cons (.lrev (.bi .list (.cons (.slcLH (.var 1) (.var 4) (.bin .Add (.var 4) (.cst (.int 2)))) .nil))) .nil))) (.slcL (.var 1) (.bin .Add (.var 4) (.cst (.int 2))))))
  (.cons (.ret (.call "_law_pick" (.cons (.var 0) (.cons (.lst (.cons (.bi .list (.cons (.var 1) .nil)) (.cons (.slcH (.var 1) (.neg (.cst (.int 1)))) (.cons (.bin .Add (.var 1) (.tup (.cons (.cst (.int 0)) .nil))) (.cons (.bin .Add (.var 1) (.slcL (.var 1) (.neg (.cst (.int 1))))) (.cons (.var 5) (.cons (.bin .Add (.slcH (.var 1) (.var 4)) (.slcL (.var 1) (.bin .Add (.var 4) (.cst (.int 1))))) (.cons (.bin .Add (.bin .Add (.slcH (.var 1) (.var 4)) (.tup (.cons (.tup .nil) .nil))) (.slcL (.var 1) (.var 4))) (.cons (.bin .Add (.bin .Add (.slcH (.var 1) (.var 4)) (.slcLH (.var 1) (.var 4) (.bin .Add (.var 4) (.cst (.int 1))))) (.slcL (.var 1) (.var 4))) .nil))))))))) .nil)) .nil))
  .nil))) .nil)
  (.cons (.cond (.and (.cons (.call "_law_int" (.cons (.var 1) .nil) .nil) (.cons (.cmp .Lt (.var 3) (.cst (.int 11))) .nil))) (.cons (.ret (.call "_law_pick" (.cons (.var 0) (.cons (.lst (.cons (.bin .Add (.var 1) (.cst (.int 1))) (.cons (.bin .Sub (.var 1) (.cst (.int 1))) (.cons (.bin .Sub (.neg (.cst (.int 1))) (.var 1)) (.cons (.cmp .Gt (.var 1) (.cst (.int 0))) (.cons (.bi .str (.cons (.var 1) .nil)) (.cons (.cst .none) (.cons (.tup (.cons (.var 1) .nil)) (.cons (.bin .Add (.var 1) (.cst (.int 64))) (.cons (.bin .Sub (.cst (.int 1)) (.var 1)) .nil)))))))))) .nil)) .nil))
  .nil) .nil)
  (.cons (.ret (.call "_law_odd" (.cons (.var 0) .nil) .nil))
  .nil)))))⟩
def d__law_bools : Df := ⟨"_law_bools", "_law_bools", ["x"], [1], ["x", "y"],
  (.cons (.cond (.isi .tuple (.var 0)) (.cons (.ret (.bi .tuple (.cons (.comp (.val (.var 0)) (.nm 1) (.cst (.bool true)) (.call "_law_bools" (.cons (.var 1) .nil) .nil) [("y", 1)]) .nil)))
  .nil) .nil)
  (.cons (.ret (.ite (.and (.cons (.call "_law_int" (.cons (.var 0) .nil) .nil) (.cons (.chain .LtE .Lt (.cst (.int 0)) (.var 0) (.cst (.int 2))) .nil))) (.cmp .Eq (.var 0) (.cst (.int 1))) (.var 0)))
  .nil))⟩
def d__law_due_ties : Df := ⟨"_law_due_ties", "_law_due_ties", ["v"], [1], ["v", "i", "row", "j", "one", "other"],
  (.cons (.cond (.or (.cons (.not (.isi .tuple (.var 0))) (.cons (.cmp .Gt (.bi .len (.cons (.var 0) .nil)) (.cst (.int 64))) (.cons (.not (.bi .all (.cons (.comp (.val (.var 0)) (.nm 2) (.cst (.bool true)) (.isi .tuple (.var 2)) [("row", 2)]) .nil))) .nil)))) (.cons (.ret (.cst (.str "form")))
  .nil) .nil)
  (.cons (.loop (.enum (.var 0)) (.tup (.cons (.nm 1) (.cons (.nm 2) .nil))) (.cons (.cond (.not (.bi .all (.cons (.comp (.val (.var 2)) (.nm 3) (.cst (.bool true)) (.and (.cons (.call "_law_int" (.cons (.var 3) .nil) .nil) (.cons (.chain .LtE .Lt (.cst (.int 0)) (.var 3) (.var 1)) .nil))) [("j", 3)]) .nil))) (.cons (.ret (.tup (.cons (.cst (.str "knot")) (.cons (.var 1) .nil))))
  .nil) .nil)
  (.cons (.cond (.not (.bi .all (.cons (.comp (.zip (.var 2) (.slcL (.var 2) (.cst (.int 1)))) (.tup (.cons (.nm 4) (.cons (.nm 5) .nil))) (.cst (.bool true)) (.cmp .Lt (.var 4) (.var 5)) [("one", 4), ("other", 5)]) .nil))) (.cons (.ret (.tup (.cons (.cst (.str "knot")) (.cons (.var 1) .nil))))
  .nil) .nil)
  .nil)))
  (.cons (.ret (.cst .none))
  .nil)))⟩
def d__law_due_colours : Df := ⟨"_law_due_colours", "_law_due_colours", ["ties", "v"], [2], ["ties", "v", "i", "row", "like", "j", "x"],
  (.cons (.cond (.or (.cons (.not (.isi .tuple (.var 1))) (.cons (.cmp .NotEq (.bi .len (.cons (.var 1) .nil)) (.bi .len (.cons (.var 0) .nil))) (.cons (.not (.bi .all (.cons (.comp (.val (.var 1)) (.nm 6) (.cst (.bool true)) (.and (.cons (.call "_law_int" (.cons (.var 6) .nil) .nil) (.cons (.cmp .GtE (.var 6) (.cst (.int 0))) .nil))) [("x", 6)]) .nil))) .nil)))) (.cons (.ret (.cst (.str "form")))
  .nil) .nil)
  (.cons (.loop (.enum (.var 0)) (.tup (.cons (.nm 2) (.cons (.nm 3) .nil))) (.cons (.set 4 (.comp (.val (.var 3)) (.nm 5) (.cmp .Eq (.idx (.var 1) (.var 5)) (.idx (.var 1) (.var 2))) (.var 5) [("j", 5)]))
  (.cons (.cond (.cmp .NotEq (.var 4) (.lst .nil)) (.cons (.ret (.tup (.cons (.cst (.str "tie")) (.cons (.var 2) (.cons (.idx (.var 4) (.cst (.int 0))) .nil)))))
  .nil) .nil)
  .nil)))
  (.cons (.ret (.cst .none))
  .nil)))⟩
def d__law_judged : Df := ⟨"_law_judged", "_law_judged", ["bag", "g", "some", "many"], [4], ["bag", "g", "some", "many", "rows", "k", "v", "kept", "due", "told"],
  (.cons (.set 4 (.bin .Add (.bi .list (.cons (.var 2) .nil)) (.lst (.cons (.call "_law_bools" (.cons (.idx (.var 2) (.cst (.int 0))) .nil) .nil) (.cons (.bi .list (.cons (.idx (.var 2) (.cst (.int 0))) .nil)) (.cons (.cst .none) .nil))))))
  (.cons (.loop (.rg1 (.var 3)) (.nm 5) (.cons (.set 6 (.call "_law_other" (.cons (.var 0) (.cons (.idx (.var 2) (.bin .Mod (.bi .int (.cons (.var 5) .nil)) (.bi .len (.cons (.var 2) .nil)))) (.cons (.cst (.int 3)) .nil))) .nil))
  (.cons (.expr (.app 4 (.ite (.cmp .Gt (.call "_law_draw" (.cons (.var 0) (.cons (.cst (.int 3)) .nil)) .nil) (.cst (.int 0))) (.var 6) (.call "_law_other" (.cons (.var 0) (.cons (.var 6) (.cons (.cst (.int 3)) .nil))) .nil))))
  .nil)))
  (.cons (.expr (.app 4 (.idx (.var 2) (.cst (.int 0)))))
  (.cons (.loop (.enum (.var 4)) (.tup (.cons (.nm 5) (.cons (.nm 6) .nil))) (.cons (.par [7, 8] (.cons (.bi .repr (.cons (.var 6) .nil)) (.cons (.ite (.cmp .Eq (.var 1) (.lst .nil)) (.call "_law_due_ties" (.cons (.var 6) .nil) .nil) (.call "_law_due_colours" (.cons (.idx (.var 1) (.cst (.int 0))) (.cons (.var 6) .nil)) .nil)) .nil)))
  (.cons (.cond (.cmp .Eq (.bin .Mod (.bi .int (.cons (.var 5) .nil)) (.cst (.int 3))) (.cst (.int 1))) (.cons (.set 9 (.ite (.cmp .Eq (.var 1) (.lst .nil)) (.call "ties_error" .nil (.cons (.var 6) .nil)) (.call "colours_error" .nil (.cons (.idx (.var 1) (.cst (.int 0))) (.cons (.var 6) .nil)))))
  .nil) (.cons (.set 9 (.ite (.cmp .Eq (.var 1) (.lst .nil)) (.call "ties_error" (.cons (.var 6) .nil) .nil) (.call "colours_error" (.cons (.idx (.var 1) (.cst (.int 0))) (.cons (.var 6) .nil)) .nil)))
  .nil))
  (.cons (.cond (.or (.cons (.not (.call "_law_same" (.cons (.var 9) (.cons (.var 8) .nil)) .nil)) (.cons (.cmp .NotEq (.bi .repr (.cons (.var 6) .nil)) (.var 7)) .nil))) (.cons (.ret (.cst (.bool false)))
  .nil) .nil)
  .nil))))
  (.cons (.ret (.cst (.bool true)))
  .nil)))))⟩
def d__law_forest : Df := ⟨"_law_forest", "_law_forest", ["bag", "many", "wild"], [3], ["bag", "many", "wild", "i", "part", "found", "row", "k", "joined", "j", "h", "p"],
  (.cons (.par [4, 5] (.cons (.lst .nil) (.cons (.lst .nil) .nil)))
  (.cons (.loop (.rg1 (.var 1)) (.nm 3) (.cons (.set 6 (.lst .nil))
  (.cons (.loop (.rg1 (.ite (.and (.cons (.cmp .Gt (.var 3) (.cst (.int 0))) (.cons (.cmp .NotEq (.var 3) (.var 2)) .nil))) (.call "_law_draw" (.cons (.var 0) (.cons (.cst (.int 4)) .nil)) .nil) (.bi .min (.cons (.var 3) (.cons (.cst (.int 4)) .nil))))) (.nm 7) (.cons (.set 9 (.ite (.or (.cons (.cmp .Eq (.var 3) (.var 2)) (.cons (.cmp .Eq (.call "_law_draw" (.cons (.var 0) (.cons (.cst (.int 3)) .nil)) .nil) (.cst (.int 0))) .nil))) (.bin .Sub (.bin .Sub (.var 3) (.cst (.int 1))) (.var 7)) (.call "_law_draw" (.cons (.var 0) (.cons (.var 3) .nil)) .nil)))
  (.cons (.cond (.and (.cons (.cmp .GtE (.var 9) (.cst (.int 0))) (.cons (.cmp .NotIn (.var 9) (.var 6)) (.cons (.or (.cons (.cmp .Eq (.var 3) (.var 2)) (.cons (.cmp .NotIn (.idx (.var 4) (.var 9)) (.comp (.val (.var 6)) (.nm 10) (.cst (.bool true)) (.idx (.var 4) (.var 10)) [("h", 10)])) .nil))) .nil)))) (.cons (.expr (.app 6 (.var 9)))
  .nil) .nil)
  .nil)))
  (.cons (.set 8 (.comp (.val (.var 6)) (.nm 10) (.cst (.bool true)) (.idx (.var 4) (.var 10)) [("h", 10)]))
  (.cons (.set 4 (.bin .Add (.comp (.val (.var 4)) (.nm 11) (.cst (.bool true)) (.ite (.cmp .In (.var 11) (.var 8)) (.var 3) (.var 11)) [("p", 11)]) (.lst (.cons (.var 3) .nil))))
  (.cons (.expr (.app 5 (.bi .tuple (.cons (.bi .sorted (.cons (.var 6) .nil)) .nil))))
  .nil))))))
  (.cons (.ret (.var 5))
  .nil)))⟩
def d__law_tower : Df := ⟨"_law_tower", "_law_tower", ["c"], [1], ["c", "k", "found", "lasts", "base", "row", "j"],
  (.cons (.par [2, 3] (.cons (.lst .nil) (.cons (.lst .nil) .nil)))
  (.cons (.loop (.rg1 (.var 0)) (.nm 1) (.cons (.set 4 (.bi .len (.cons (.var 2) .nil)))
  (.cons (.expr (.ext 2 (.comp (.val (.call "_law_tower" (.cons (.var 1) .nil) .nil)) (.nm 5) (.cst (.bool true)) (.bi .tuple (.cons (.comp (.val (.var 5)) (.nm 6) (.cst (.bool true)) (.bin .Add (.var 4) (.var 6)) [("j", 6)]) .nil)) [("row", 5)])))
  (.cons (.expr (.app 3 (.bin .Sub (.bi .len (.cons (.var 2) .nil)) (.cst (.int 1)))))
  .nil))))
  (.cons (.ret (.bin .Add (.var 2) (.lst (.cons (.bi .tuple (.cons (.var 3) .nil)) .nil))))
  .nil)))⟩
def d__law_coming : Df := ⟨"_law_coming", "_law_coming", ["bag", "ties"], [2], ["bag", "ties", "k", "above", "wants", "i", "row", "j", "ready", "place", "found"],
  (.cons (.par [3, 4] (.cons (.bin .Mult (.lst (.cons (.cst .none) .nil)) (.bi .len (.cons (.var 1) .nil))) (.cons (.comp (.val (.var 1)) (.nm 6) (.cst (.bool true)) (.bi .len (.cons (.var 6) .nil)) [("row", 6)]) .nil)))
  (.cons (.loop (.enum (.var 1)) (.tup (.cons (.nm 5) (.cons (.nm 6) .nil))) (.cons (.loop (.val (.var 6)) (.nm 7) (.cons (.setIx 3 (.var 5) (.var 7))
  .nil))
  .nil))
  (.cons (.par [8, 9, 10] (.cons (.comp (.enum (.var 1)) (.tup (.cons (.nm 5) (.cons (.nm 6) .nil))) (.cmp .Eq (.var 6) (.tup .nil)) (.var 5) [("i", 5), ("row", 6)]) (.cons (.bin .Mult (.lst (.cons (.cst (.int 0)) .nil)) (.bi .len (.cons (.var 1) .nil))) (.cons (.lst .nil) .nil))))
  (.cons (.loop (.rg1 (.bi .len (.cons (.var 1) .nil))) (.nm 2) (.cons (.set 5 (.popAt 8 (.call "_law_draw" (.cons (.var 0) (.cons (.bi .len (.cons (.var 8) .nil)) .nil)) .nil)))
  (.cons (.setIx 9 (.var 2) (.var 5))
  (.cons (.expr (.app 10 (.bi .tuple (.cons (.bi .sorted (.cons (.comp (.val (.idx (.var 1) (.var 5))) (.nm 7) (.cst (.bool true)) (.idx (.var 9) (.var 7)) [("j", 7)]) .nil)) .nil))))
  (.cons (.cond (.isc true .non (.idx (.var 3) (.var 5))) (.cons (.setIx 4 (.bin .Sub (.idx (.var 4) (.idx (.var 3) (.var 5))) (.cst (.int 1))) (.idx (.var 3) (.var 5)))
  (.cons (.cond (.cmp .Eq (.idx (.var 4) (.idx (.var 3) (.var 5))) (.cst (.int 0))) (.cons (.expr (.app 8 (.idx (.var 3) (.var 5))))
  .nil) .nil)
  .nil)) .nil)
  .nil)))))
  (.cons (.ret (.var 10))
  .nil)))))⟩
def d__law_ring : Df := ⟨"_law_ring", "_law_ring", ["bag", "many", "size"], [3], ["bag", "many", "size", "found", "i", "j"],
  (.cons (.set 3 (.comp (.rg1 (.var 2)) (.nm 4) (.cst (.bool true)) (.ite (.cmp .Eq (.var 4) (.cst (.int 0))) (.tup .nil) (.tup (.cons (.bin .Sub (.var 4) (.cst (.int 1))) .nil))) [("i", 4)]))
  (.cons (.setIx 3 (.tup (.cons (.cst (.int 0)) (.cons (.bin .Sub (.var 2) (.cst (.int 2))) .nil))) (.neg (.cst (.int 1))))
  (.cons (.loop (.rg2 (.var 2) (.var 1)) (.nm 4) (.cons (.set 5 (.call "_law_draw" (.cons (.var 0) (.cons (.var 4) .nil)) .nil))
  (.cons (.expr (.app 3 (.idx (.lst (.cons (.tup .nil) (.cons (.tup (.cons (.var 5) .nil)) (.cons (.tup (.cons (.cst (.int 0)) (.cons (.bin .Sub (.var 4) (.cst (.int 1))) .nil))) (.cons (.tup (.cons (.var 5) .nil)) .nil))))) (.call "_law_draw" (.cons (.var 0) (.cons (.cst (.int 4)) .nil)) .nil))))
  .nil)))
  (.cons (.ret (.var 3))
  .nil))))⟩
def d__law_thick : Df := ⟨"_law_thick", "_law_thick", ["bag", "many", "share"], [3], ["bag", "many", "share", "i", "j"],
  (.cons (.ret (.comp (.rg1 (.var 1)) (.nm 3) (.cst (.bool true)) (.bi .tuple (.cons (.comp (.rg1 (.var 3)) (.nm 4) (.or (.cons (.cmp .Eq (.var 2) (.cst (.int 0))) (.cons (.cmp .Gt (.call "_law_draw" (.cons (.var 0) (.cons (.bin .Add (.var 2) (.cst (.int 1))) .nil)) .nil) (.cst (.int 0))) .nil))) (.var 4) [("j", 4)]) .nil)) [("i", 3)]))
  .nil)⟩
def d__law_ties : Df := ⟨"_law_ties", "_law_ties", ["bag"], [1], ["bag", "many", "way", "cut", "i", "row", "j"],
  (.cons (.par [1, 2] (.cons (.call "_law_pick" (.cons (.var 0) (.cons (.lst (.cons (.cst (.int 64)) (.cons (.cst (.int 64)) (.cons (.call "_law_draw" (.cons (.var 0) (.cons (.cst (.int 65)) .nil)) .nil) .nil)))) .nil)) .nil) (.cons (.call "_law_draw" (.cons (.var 0) (.cons (.cst (.int 9)) .nil)) .nil) .nil)))
  (.cons (.cond (.cmp .Eq (.var 2) (.cst (.int 0))) (.cons (.ret (.bi .tuple (.cons (.call "_law_coming" (.cons (.var 0) (.cons (.call "_law_tower" (.cons (.call "_law_pick" (.cons (.var 0) (.cons (.lst (.cons (.cst (.int 6)) (.cons (.cst (.int 5)) (.cons (.call "_law_draw" (.cons (.var 0) (.cons (.cst (.int 7)) .nil)) .nil) .nil)))) .nil)) .nil) .nil) .nil) .nil)) .nil) .nil)))
  .nil) .nil)
  (.cons (.cond (.cmp .Eq (.var 2) (.cst (.int 1))) (.cons (.ret (.bi .tuple (.cons (.comp (.rg1 (.var 1)) (.nm 4) (.cst (.bool true)) (.ite (.cmp .Eq (.var 4) (.cst (.int 0))) (.tup .nil) (.tup (.cons (.bin .Sub (.var 4) (.cst (.int 1))) .nil))) [("i", 4)]) .nil)))
  .nil) .nil)
  (.cons (.cond (.cmp .Eq (.var 2) (.cst (.int 2))) (.cons (.ret (.ite (.cmp .Gt (.var 1) (.cst (.int 0))) (.bin .Add (.tmul (.tup (.cons (.tup .nil) .nil)) (.bin .Sub (.var 1) (.cst (.int 1)))) (.tup (.cons (.bi .tuple (.cons (.lrg1 (.bin .Sub (.var 1) (.cst (.int 1)))) .nil)) .nil))) (.tup .nil)))
  .nil) .nil)
  (.cons (.cond (.cmp .Eq (.var 2) (.cst (.int 3))) (.cons (.ret (.bi .tuple (.cons (.call "_law_ring" (.cons (.var 0) (.cons (.bi .max (.cons (.var 1) (.cons (.cst (.int 3)) .nil))) (.cons (.bin .Add (.cst (.int 3)) (.call "_law_draw" (.cons (.var 0) (.cons (.bin .Sub (.bi .max (.cons (.var 1) (.cons (.cst (.int 3)) .nil))) (.cst (.int 2))) .nil)) .nil)) .nil))) .nil) .nil)))
  .nil) .nil)
  (.cons (.cond (.cmp .Eq (.var 2) (.cst (.int 4))) (.cons (.ret (.bi .tuple (.cons (.call "_law_thick" (.cons (.var 0) (.cons (.call "_law_pick" (.cons (.var 0) (.cons (.lst (.cons (.cst (.int 16)) (.cons (.cst (.int 12)) (.cons (.cst (.int 5)) (.cons (.cst (.int 9)) .nil))))) .nil)) .nil) (.cons (.call "_law_draw" (.cons (.var 0) (.cons (.cst (.int 2)) .nil)) .nil) .nil))) .nil) .nil)))
  .nil) .nil)
  (.cons (.cond (.cmp .Eq (.var 2) (.cst (.int 5))) (.cons (.ret (.bi .tuple (.cons (.call "_law_forest" (.cons (.var 0) (.cons (.var 1) (.cons (.call "_law_pick" (.cons (.var 0) (.cons (.lst (.cons (.bin .Sub (.var 1) (.cst (.int 1))) (.cons (.call "_law_draw" (.cons (.var 0) (.cons (.bin .Add (.var 1) (.cst (.int 1))) .nil)) .nil) .nil))) .nil)) .nil) .nil))) .nil) .nil)))
  .nil) .nil)
  (.cons (.cond (.cmp .Eq (.var 2) (.cst (.int 6))) (.cons (.set 3 (.call "_law_tower" (.cons (.cst (.int 5)) .nil) .nil))
  (.cons (.ret (.bi .tuple (.cons (.bin .Add (.var 3) (.comp (.val (.call "_law_coming" (.cons (.var 0) (.cons (.var 3) .nil)) .nil)) (.nm 5) (.cst (.bool true)) (.bi .tuple (.cons (.comp (.val (.var 5)) (.nm 6) (.cst (.bool true)) (.bin .Add (.cst (.int 32)) (.var 6)) [("j", 6)]) .nil)) [("row", 5)])) .nil)))
  .nil)) .nil)
  (.cons (.ret (.bi .tuple (.cons (.call "_law_forest" (.cons (.var 0) (.cons (.var 1) (.cons (.neg (.cst (.int 1))) .nil))) .nil) .nil)))
  .nil)))))))))⟩
def d__law_facts : Df := ⟨"_law_facts", "_law_facts", ["ties"], [1], ["ties", "part", "least", "two", "joins", "twice", "i", "row", "free", "turn", "joined", "near", "k", "j", "p", "c"],
  (.cons (.par [1, 2, 3, 4, 5] (.cons (.lst .nil) (.cons (.lst .nil) (.cons (.lst .nil) (.cons (.lst .nil) (.cons (.bi .len (.cons (.var 0) .nil)) .nil))))))
  (.cons (.loop (.enum (.var 0)) (.tup (.cons (.nm 6) (.cons (.nm 7) .nil))) (.cons (.par [10, 11] (.cons (.comp (.val (.var 7)) (.nm 13) (.cst (.bool true)) (.idx (.var 1) (.var 13)) [("j", 13)]) (.cons (.comp (.val (.var 7)) (.nm 13) (.cst (.bool true)) (.idx (.var 2) (.var 13)) [("j", 13)]) .nil)))
  (.cons (.cond (.and (.cons (.cmp .Eq (.var 5) (.bi .len (.cons (.var 0) .nil))) (.cons (.cmp .Lt (.lset (.var 10)) (.bi .len (.cons (.var 10) .nil))) .nil))) (.cons (.set 5 (.var 6))
  .nil) .nil)
  (.cons (.set 8 (.comp (.rg1 (.bin .Add (.bi .len (.cons (.var 7) .nil)) (.cst (.int 1)))) (.nm 12) (.cmp .NotIn (.var 12) (.var 11)) (.var 12) [("k", 12)]))
  (.cons (.expr (.app 2 (.idx (.var 8) (.cst (.int 0)))))
  (.cons (.set 9 (.comp (.val (.var 7)) (.nm 13) (.cmp .Eq (.idx (.var 3) (.var 13)) (.cst (.int 0))) (.idx (.var 1) (.var 13)) [("j", 13)]))
  (.cons (.set 3 (.bin .Add (.comp (.zip (.var 3) (.var 1)) (.tup (.cons (.nm 15) (.cons (.nm 14) .nil))) (.cst (.bool true)) (.ite (.cmp .In (.var 14) (.var 9)) (.bin .Sub (.cst (.int 1)) (.var 15)) (.var 15)) [("c", 15), ("p", 14)]) (.lst (.cons (.cst (.int 0)) .nil))))
  (.cons (.set 1 (.bin .Add (.comp (.val (.var 1)) (.nm 14) (.cst (.bool true)) (.ite (.cmp .In (.var 14) (.var 10)) (.var 6) (.var 14)) [("p", 14)]) (.lst (.cons (.var 6) .nil))))
  (.cons (.expr (.app 4 (.cnt (.var 1) (.var 6))))
  .nil)))))))))
  (.cons (.ret (.lst (.cons (.var 5) (.cons (.lset (.var 1)) (.cons (.bi .tuple (.cons (.var 2) .nil)) (.cons (.bi .tuple (.cons (.var 3) .nil)) (.cons (.var 4) .nil)))))))
  .nil)))⟩
def d__law_odd_ring : Df := ⟨"_law_odd_ring", "_law_odd_ring", ["bag", "size"], [2], ["bag", "size", "ties", "k", "two", "due", "i"],
  (.cons (.set 2 (.bi .tuple (.cons (.call "_law_ring" (.cons (.var 0) (.cons (.var 1) (.cons (.var 1) .nil))) .nil) .nil)))
  (.cons (.loop (.rg1 (.cst (.int 3))) (.nm 3) (.cons (.set 4 (.bi .tuple (.cons (.comp (.rg1 (.var 1)) (.nm 6) (.cst (.bool true)) (.ite (.cmp .Lt (.var 3) (.cst (.int 2))) (.bin .Mod (.bi .int (.cons (.bin .Add (.var 6) (.var 3)) .nil)) (.cst (.int 2))) (.call "_law_draw" (.cons (.var 0) (.cons (.cst (.int 2)) .nil)) .nil)) [("i", 6)]) .nil)))
  (.cons (.set 5 (.call "_law_due_colours" (.cons (.var 2) (.cons (.var 4) .nil)) .nil))
  (.cons (.cond (.or (.cons (.isc false .non (.var 5)) (.cons (.not (.call "_law_same" (.cons (.call "colours_error" (.cons (.var 2) (.cons (.var 4) .nil)) .nil) (.cons (.var 5) .nil)) .nil)) .nil))) (.cons (.ret (.cst (.bool false)))
  .nil) .nil)
  .nil))))
  (.cons (.ret (.and (.cons (.call "_law_same" (.cons (.call "is_forest" (.cons (.var 2) .nil) .nil) (.cons (.cst (.bool false)) .nil)) .nil) (.cons (.call "_law_same" (.cons (.bi .max (.cons (.call "least_colours" (.cons (.var 2) .nil) .nil) .nil)) (.cons (.cst (.int 2)) .nil)) .nil) .nil))))
  .nil)))⟩
def d__law_is_full : Df := ⟨"_law_is_full", "_law_is_full", ["bag", "many"], [2], ["bag", "many", "at", "j", "bent", "told", "ties", "least", "i"],
  (.cons (.par [6, 7] (.cons (.bi .tuple (.cons (.comp (.rg1 (.var 1)) (.nm 8) (.cst (.bool true)) (.bi .tuple (.cons (.lrg1 (.var 8)) .nil)) [("i", 8)]) .nil)) (.cons (.bi .tuple (.cons (.lrg1 (.var 1)) .nil)) .nil)))
  (.cons (.set 2 (.call "_law_pick" (.cons (.var 0) (.cons (.lst (.cons (.bin .Sub (.var 1) (.cst (.int 1))) (.cons (.bin .Add (.cst (.int 1)) (.call "_law_draw" (.cons (.var 0) (.cons (.bin .Sub (.var 1) (.cst (.int 1))) .nil)) .nil)) .nil))) .nil)) .nil))
  (.cons (.set 3 (.call "_law_draw" (.cons (.var 0) (.cons (.var 2) .nil)) .nil))
  (.cons (.set 4 (.bin .Add (.bin .Add (.slcH (.var 7) (.var 2)) (.tup (.cons (.var 3) .nil))) (.slcL (.var 7) (.bin .Add (.var 2) (.cst (.int 1))))))
  (.cons (.set 5 (.tup (.cons (.call "least_colours" (.cons (.var 6) .nil) .nil) (.cons (.call "colours_error" (.cons (.var 6) (.cons (.var 7) .nil)) .nil) (.cons (.call "colours_error" (.cons (.var 6) (.cons (.var 4) .nil)) .nil) (.cons (.call "is_forest" (.cons (.var 6) .nil) .nil) .nil))))))
  (.cons (.ret (.call "_law_same" (.cons (.var 5) (.cons (.tup (.cons (.var 7) (.cons (.cst .none) (.cons (.tup (.cons (.cst (.str "tie")) (.cons (.var 2) (.cons (.var 3) .nil)))) (.cons (.cmp .Lt (.var 1) (.cst (.int 3))) .nil))))) .nil)) .nil))
  .nil))))))⟩
def d__law_read : Df := ⟨"_law_read", "_law_read", ["bag", "ties", "facts"], [3], ["bag", "ties", "facts", "forest", "at", "parts", "least", "joins", "kept", "told", "again", "c", "many", "row"],
  (.cons (.par [5, 6, 7, 8] (.cons (.idx (.var 2) (.cst (.int 1))) (.cons (.idx (.var 2) (.cst (.int 2))) (.cons (.idx (.var 2) (.cst (.int 4))) (.cons (.bi .repr (.cons (.var 1) .nil)) .nil)))))
  (.cons (.set 3 (.cmp .Eq (.idx (.var 2) (.cst (.int 0))) (.bi .len (.cons (.var 1) .nil))))
  (.cons (.cond (.cmp .NotEq (.var 3) (.cmp .Eq (.var 5) (.bin .Sub (.bi .len (.cons (.var 1) .nil)) (.bi .sum (.cons (.comp (.val (.var 1)) (.nm 13) (.cst (.bool true)) (.bi .len (.cons (.var 13) .nil)) [("row", 13)]) .nil))))) (.cons (.ret (.cst (.bool false)))
  .nil) .nil)
  (.cons (.cond (.not (.call "_law_same" (.cons (.tup (.cons (.call "is_forest" (.cons (.var 1) .nil) .nil) (.cons (.call "is_forest" .nil (.cons (.var 1) .nil)) .nil))) (.cons (.tup (.cons (.var 3) (.cons (.var 3) .nil))) .nil)) .nil)) (.cons (.ret (.cst (.bool false)))
  .nil) .nil)
  (.cons (.par [9, 10] (.cons (.call "least_colours" (.cons (.var 1) .nil) .nil) (.cons (.call "least_colours" .nil (.cons (.var 1) .nil)) .nil)))
  (.cons (.cond (.or (.cons (.not (.call "_law_same" (.cons (.tup (.cons (.var 9) (.cons (.var 10) .nil))) (.cons (.tup (.cons (.var 6) (.cons (.var 6) .nil))) .nil)) .nil)) (.cons (.not (.bi .all (.cons (.comp (.zip (.var 9) (.var 1)) (.tup (.cons (.nm 11) (.cons (.nm 13) .nil))) (.cst (.bool true)) (.cmp .LtE (.var 11) (.bi .len (.cons (.var 13) .nil))) [("c", 11), ("row", 13)]) .nil))) .nil))) (.cons (.ret (.cst (.bool false)))
  .nil) .nil)
  (.cons (.loop (.zip (.var 9) (.var 7)) (.tup (.cons (.nm 11) (.cons (.nm 12) .nil))) (.cons (.cond (.and (.cons (.var 3) (.cons (.not (.cmp .LtE (.call "fewest_knots" (.cons (.var 11) .nil) .nil) (.var 12))) .nil))) (.cons (.ret (.cst (.bool false)))
  .nil) .nil)
  .nil))
  (.cons (.set 4 (.call "_law_draw" (.cons (.var 0) (.cons (.bin .Add (.bi .len (.cons (.var 1) .nil)) (.cst (.int 1))) .nil)) .nil))
  (.cons (.cond (.not (.call "_law_same" (.cons (.tup (.cons (.call "least_colours" (.cons (.slcH (.var 1) (.var 4)) .nil) .nil) (.cons (.call "is_forest" (.cons (.slcH (.var 1) (.var 4)) .nil) .nil) .nil))) (.cons (.tup (.cons (.slcH (.var 6) (.var 4)) (.cons (.cmp .LtE (.var 4) (.idx (.var 2) (.cst (.int 0)))) .nil))) .nil)) .nil)) (.cons (.ret (.cst (.bool false)))
  .nil) .nil)
  (.cons (.cond (.var 3) (.cons (.par [9, 10] (.cons (.call "two_colours" (.cons (.var 1) .nil) .nil) (.cons (.call "two_colours" .nil (.cons (.var 1) .nil)) .nil)))
  (.cons (.cond (.or (.cons (.isc true .non (.call "_law_due_colours" (.cons (.var 1) (.cons (.var 9) .nil)) .nil)) (.cons (.not (.bi .all (.cons (.comp (.val (.var 9)) (.nm 11) (.cst (.bool true)) (.chain .LtE .LtE (.cst (.int 0)) (.var 11) (.cst (.int 1))) [("c", 11)]) .nil))) .nil))) (.cons (.ret (.cst (.bool false)))
  .nil) .nil)
  (.cons (.cond (.or (.cons (.not (.call "_law_same" (.cons (.var 10) (.cons (.var 9) .nil)) .nil)) (.cons (.not (.call "_law_same" (.cons (.call "colours_error" (.cons (.var 1) (.cons (.var 9) .nil)) .nil) (.cons (.cst .none) .nil)) .nil)) .nil))) (.cons (.ret (.cst (.bool false)))
  .nil) .nil)
  .nil))) .nil)
  (.cons (.ret (.and (.cons (.call "_law_same" (.cons (.tup (.cons (.call "least_colours" (.cons (.var 1) .nil) .nil) (.cons (.call "ties_error" (.cons (.var 1) .nil) .nil) .nil))) (.cons (.tup (.cons (.var 6) (.cons (.cst .none) .nil))) .nil)) .nil) (.cons (.cmp .Eq (.bi .repr (.cons (.var 1) .nil)) (.var 8)) .nil))))
  .nil)))))))))))⟩
def d__law_spoils : Df := ⟨"_law_spoils", "_law_spoils", ["bag", "ties", "least", "two"], [4], ["bag", "ties", "least", "two", "some", "tied", "i", "row", "j", "wide", "many", "rows", "last", "c"],
  (.cons (.set 4 (.lst (.cons (.var 2) (.cons (.var 3) (.cons (.bi .tuple (.cons (.comp (.val (.var 2)) (.nm 13) (.cst (.bool true)) (.bin .Add (.var 13) (.bin .Pow (.cst (.int 10)) (.cst (.int 39)))) [("c", 13)]) .nil)) (.cons (.bi .tuple (.cons (.comp (.val (.var 2)) (.nm 13) (.cst (.bool true)) (.bin .FloorDiv (.var 13) (.cst (.int 2))) [("c", 13)]) .nil)) (.cons (.bin .Add (.var 2) (.tup (.cons (.cst (.int 0)) .nil))) (.cons (.bin .Add (.slcH (.var 2) (.neg (.cst (.int 1)))) (.tup (.cons (.neg (.cst (.int 1))) .nil))) (.cons (.bi .tuple (.cons (.lrg1 (.bi .len (.cons (.var 1) .nil))) .nil)) .nil)))))))))
  (.cons (.set 5 (.comp (.enum (.var 1)) (.tup (.cons (.nm 6) (.cons (.nm 7) .nil))) (.cmp .NotEq (.var 7) (.tup .nil)) (.var 6) [("i", 6), ("row", 7)]))
  (.cons (.loop (.val (.bin .Add (.slcL (.var 5) (.neg (.cst (.int 1)))) (.slcH (.var 5) (.cst (.int 1))))) (.nm 6) (.cons (.set 8 (.call "_law_pick" (.cons (.var 0) (.cons (.idx (.var 1) (.var 6)) .nil)) .nil))
  (.cons (.expr (.app 4 (.bin .Add (.bin .Add (.slcH (.var 2) (.var 6)) (.tup (.cons (.idx (.var 2) (.var 8)) .nil))) (.slcL (.var 2) (.bin .Add (.var 6) (.cst (.int 1)))))))
  (.cons (.expr (.app 4 (.bin .Add (.bin .Add (.slcH (.var 2) (.var 8)) (.tup (.cons (.idx (.var 2) (.var 6)) .nil))) (.slcL (.var 2) (.bin .Add (.var 8) (.cst (.int 1)))))))
  .nil))))
  (.cons (.cond (.not (.call "_law_judged" (.cons (.var 0) (.cons (.lst (.cons (.var 1) .nil)) (.cons (.var 4) (.cons (.cst (.int 7)) .nil)))) .nil)) (.cons (.ret (.cst (.bool false)))
  .nil) .nil)
  (.cons (.par [9, 10] (.cons (.slcH (.bin .Add (.var 1) (.tmul (.tup (.cons (.tup .nil) .nil)) (.cst (.int 64)))) (.cst (.int 64))) (.cons (.bi .len (.cons (.var 1) .nil)) .nil)))
  (.cons (.par [11, 12] (.cons (.lst (.cons (.var 1) (.cons (.var 9) (.cons (.bin .Add (.var 9) (.tup (.cons (.tup .nil) .nil))) (.cons (.bin .Add (.var 9) (.tup (.cons (.cst .none) .nil))) .nil))))) (.cons (.bin .Sub (.bi .len (.cons (.var 1) .nil)) (.cst (.int 1))) .nil)))
  (.cons (.loop (.val (.lst (.cons (.tup (.cons (.var 10) .nil)) (.cons (.tup (.cons (.neg (.cst (.int 1))) .nil)) (.cons (.tup (.cons (.var 12) (.cons (.var 12) .nil))) (.cons (.tup (.cons (.var 12) (.cons (.bin .Sub (.var 12) (.cst (.int 1))) .nil))) (.cons (.lst (.cons (.cst (.int 0)) .nil)) (.cons (.tup (.cons (.cst (.bool true)) .nil)) (.cons (.tup (.cons (.cst (.bool false)) .nil)) (.cons (.tup (.cons (.cst (.str "0")) .nil)) (.cons (.tup (.cons (.cst .none) .nil)) (.cons (.tup (.cons (.var 12) .nil)) .nil)))))))))))) (.nm 7) (.cons (.cond (.or (.cons (.cmp .Lt (.var 10) (.cst (.int 64))) (.cons (.cmp .Eq (.call "_law_draw" (.cons (.var 0) (.cons (.cst (.int 2)) .nil)) .nil) (.cst (.int 0))) .nil))) (.cons (.expr (.app 11 (.ite (.cmp .Lt (.var 10) (.cst (.int 64))) (.bin .Add (.slcH (.var 1) (.cst (.int 63))) (.tup (.cons (.var 7) .nil))) (.bin .Add (.slcH (.var 1) (.cst (.int 63))) (.tup (.cons (.slcH (.var 7) (.cst (.int 1))) .nil))))))
  .nil) .nil)
  .nil))
  (.cons (.cond (.cmp .Gt (.var 10) (.cst (.int 1))) (.cons (.expr (.app 11 (.bin .Add (.bin .Add (.bin .Add (.slcH (.var 1) (.cst (.int 1))) (.tup (.cons (.tup (.cons (.cst (.int 1)) .nil)) .nil))) (.slcLH (.var 1) (.cst (.int 2)) (.neg (.cst (.int 1))))) (.tup (.cons (.tup (.cons (.var 10) .nil)) .nil)))))
  .nil) .nil)
  (.cons (.ret (.call "_law_judged" (.cons (.var 0) (.cons (.lst .nil) (.cons (.var 11) (.cons (.cst (.int 5)) .nil)))) .nil))
  .nil)))))))))⟩
def d_law : Df := ⟨"law", "law", ["script"], [1], ["script", "bag", "c", "tower", "full", "one", "other", "row", "rest", "due", "many"],
  (.cons (.loop (.rg1 (.cst (.int 7))) (.nm 2) (.cons (.par [9, 10] (.cons (.bi .tuple (.cons (.call "_law_tower" (.cons (.var 2) .nil) .nil) .nil)) (.cons (.idx (.tup (.cons (.cst (.int 1)) (.cons (.cst (.int 2)) (.cons (.cst (.int 4)) (.cons (.cst (.int 8)) (.cons (.cst (.int 16)) (.cons (.cst (.int 32)) (.cons (.cst (.int 64)) .nil)))))))) (.var 2)) .nil)))
  (.cons (.cond (.not (.call "_law_same" (.cons (.tup (.cons (.call "colour_tower" (.cons (.var 2) .nil) .nil) (.cons (.call "fewest_knots" (.cons (.var 2) .nil) .nil) (.cons (.call "fewest_knots" .nil (.cons (.var 2) .nil)) (.cons (.bi .len (.cons (.var 9) .nil)) .nil))))) (.cons (.tup (.cons (.var 9) (.cons (.var 10) (.cons (.var 10) (.cons (.var 10) .nil))))) .nil)) .nil)) (.cons (.ret (.cst (.bool false)))
  .nil) .nil)
  .nil)))
  (.cons (.set 2 (.call "_law_draw" (.cons (.var 1) (.cons (.cst (.int 7)) .nil)) .nil))
  (.cons (.set 3 (.call "colour_tower" .nil (.cons (.var 2) .nil)))
  (.cons (.cond (.or (.cons (.not (.call "_law_same" (.cons (.var 3) (.cons (.bi .tuple (.cons (.call "_law_tower" (.cons (.var 2) .nil) .nil) .nil)) .nil)) .nil)) (.cons (.not (.call "_law_same" (.cons (.idx (.call "least_colours" (.cons (.var 3) .nil) .nil) (.neg (.cst (.int 1)))) (.cons (.var 2) .nil)) .nil)) .nil))) (.cons (.ret (.cst (.bool false)))
  .nil) .nil)
  (.cons (.par [5, 6] (.cons (.call "_law_ties" (.cons (.var 1) .nil) .nil) (.cons (.call "_law_ties" (.cons (.var 1) .nil) .nil) .nil)))
  (.cons (.par [7, 8] (.cons (.call "_law_facts" (.cons (.var 5) .nil) .nil) (.cons (.call "_law_facts" (.cons (.var 6) .nil) .nil) .nil)))
  (.cons (.cond (.or (.cons (.not (.call "_law_read" (.cons (.var 1) (.cons (.var 5) (.cons (.var 7) .nil))) .nil)) (.cons (.not (.call "_law_read" (.cons (.var 1) (.cons (.var 6) (.cons (.var 8) .nil))) .nil)) .nil))) (.cons (.ret (.cst (.bool false)))
  .nil) .nil)
  (.cons (.cond (.not (.call "_law_odd_ring" (.cons (.var 1) (.cons (.bin .Add (.cst (.int 3)) (.bin .Mult (.cst (.int 2)) (.call "_law_draw" (.cons (.var 1) (.cons (.cst (.int 31)) .nil)) .nil))) .nil)) .nil)) (.cons (.ret (.cst (.bool false)))
  .nil) .nil)
  (.cons (.set 4 (.call "_law_is_full" (.cons (.var 1) (.cons (.call "_law_pick" (.cons (.var 1) (.cons (.lst (.cons (.cst (.int 64)) (.cons (.bin .Add (.cst (.int 2)) (.call "_law_draw" (.cons (.var 1) (.cons (.cst (.int 63)) .nil)) .nil)) .nil))) .nil)) .nil) .nil)) .nil))
  (.cons (.ret (.and (.cons (.var 4) (.cons (.call "_law_spoils" (.cons (.var 1) (.cons (.var 5) (.cons (.idx (.var 7) (.cst (.int 2))) (.cons (.idx (.var 7) (.cst (.int 3))) .nil)))) .nil) (.cons (.call "_law_same" (.cons (.call "is_forest" (.cons (.var 5) .nil) .nil) (.cons (.cmp .Eq (.idx (.var 7) (.cst (.int 0))) (.bi .len (.cons (.var 5) .nil))) .nil)) .nil) .nil)))))
  .nil))))))))))⟩
def tabS : List (Df × Stmt) := (d_is_integer, stm 2) :: (d_is_whole, stm 3) :: (d_is_tuple, stm 4) :: (d_are_places, stm 5) :: (d_power_of, stm 6) :: (d_ties_error, stm 8) :: (d_is_forest, stm 9) :: (d_least_colours, stm 10) :: (d_colours_error, stm 11) :: (d_two_colours, stm 12) :: (d_colour_tower, stm 13) :: (d_fewest_knots, stm 14) :: (d__law_draw, stm 17) :: (d__law_pick, stm 18) :: (d__law_int, stm 19) :: (d__law_same, stm 20) :: (d__law_odd, stm 21) :: (d__law_other, stm 22) :: (d__law_bools, stm 23) :: (d__law_due_ties, stm 24) :: (d__law_due_colours, stm 25) :: (d__law_judged, stm 26) :: (d__law_forest, stm 27) :: (d__law_tower, stm 28) :: (d__law_coming, stm 29) :: (d__law_ring, stm 30) :: (d__law_thick, stm 31) :: (d__law_ties, stm 32) :: (d__law_facts, stm 33) :: (d__law_odd_ring, stm 34) :: (d__law_is_full, stm 35) :: (d__law_read, stm 36) :: (d__law_spoils, stm 37) :: []
def cons : List (Str × Int) := ("MAX_KNOTS", 64) :: []
theorem c_is_integer : dfB (tabS.map (·.1)) cons d_is_integer (stm 2) = true := by decide +kernel
theorem b_is_integer : BdOk d_is_integer (stm 2) := bd_of (l := [1]) ⟨⟨by decide, fun _ _ _ _ _ _ _ => rfl⟩, trivial⟩
theorem c_is_whole : dfB (tabS.map (·.1)) cons d_is_whole (stm 3) = true := by decide +kernel
theorem b_is_whole : BdOk d_is_whole (stm 3) := bd_of (l := [3]) ⟨⟨by decide, fun _ _ _ _ _ _ _ _ _ => rfl⟩, trivial⟩
theorem c_is_tuple : dfB (tabS.map (·.1)) cons d_is_tuple (stm 4) = true := by decide +kernel
theorem b_is_tuple : BdOk d_is_tuple (stm 4) := bd_of (l := [2]) ⟨⟨by decide, fun _ _ _ _ _ _ _ _ => rfl⟩, trivial⟩
theorem c_are_places : dfB (tabS.map (·.1)) cons d_are_places (stm 5) = true := by decide +kernel
theorem b_are_places : BdOk d_are_places (stm 5) := bd_of (l := [2]) ⟨⟨by decide, fun _ _ _ _ _ _ _ _ => rfl⟩, trivial⟩
theorem c_power_of : dfB (tabS.map (·.1)) cons d_power_of (stm 6) = true := by decide +kernel
theorem b_power_of : BdOk d_power_of (stm 6) := bd_of (l := [2]) ⟨⟨by decide, fun _ _ _ _ _ _ _ _ => rfl⟩, trivial⟩
theorem c_ties_error : dfB (tabS.map (·.1)) cons d_ties_error (stm 8) = true := by decide +kernel
theorem b_ties_error : BdOk d_ties_error (stm 8) := bd_of (l := [0, 1]) ⟨⟨by decide, fun _ _ _ _ _ _ _ => rfl⟩, ⟨⟨by decide, fun _ _ _ _ _ _ _ => rfl⟩, trivial⟩⟩
theorem c_is_forest : dfB (tabS.map (·.1)) cons d_is_forest (stm 9) = true := by decide +kernel
theorem b_is_forest : BdOk d_is_forest (stm 9) := bd_of (l := [0, 1]) ⟨⟨by decide, fun _ _ _ _ _ _ _ => rfl⟩, ⟨⟨by decide, fun _ _ _ _ _ _ _ => rfl⟩, trivial⟩⟩
theorem c_least_colours : dfB (tabS.map (·.1)) cons d_least_colours (stm 10) = true := by decide +kernel
theorem b_least_colours : BdOk d_least_colours (stm 10) := bd_of (l := [0, 1]) ⟨⟨by decide, fun _ _ _ _ _ _ _ => rfl⟩, ⟨⟨by decide, fun _ _ _ _ _ _ _ => rfl⟩, trivial⟩⟩
theorem c_colours_error : dfB (tabS.map (·.1)) cons d_colours_error (stm 11) = true := by decide +kernel
theorem b_colours_error : BdOk d_colours_error (stm 11) := bd_of (l := [0, 2]) ⟨⟨by decide, fun _ _ _ _ _ _ _ _ => rfl⟩, ⟨⟨by decide, fun _ _ _ _ _ _ _ _ => rfl⟩, trivial⟩⟩
theorem c_two_colours : dfB (tabS.map (·.1)) cons d_two_colours (stm 12) = true := by decide +kernel
theorem b_two_colours : BdOk d_two_colours (stm 12) := bd_of (l := [0, 1]) ⟨⟨by decide, fun _ _ _ _ _ _ _ => rfl⟩, ⟨⟨by decide, fun _ _ _ _ _ _ _ => rfl⟩, trivial⟩⟩
theorem c_colour_tower : dfB (tabS.map (·.1)) cons d_colour_tower (stm 13) = true := by decide +kernel
theorem b_colour_tower : BdOk d_colour_tower (stm 13) := bd_of (l := [0, 1]) ⟨⟨by decide, fun _ _ _ _ _ _ _ => rfl⟩, ⟨⟨by decide, fun _ _ _ _ _ _ _ => rfl⟩, trivial⟩⟩
theorem c_fewest_knots : dfB (tabS.map (·.1)) cons d_fewest_knots (stm 14) = true := by decide +kernel
theorem b_fewest_knots : BdOk d_fewest_knots (stm 14) := bd_of (l := [0, 1]) ⟨⟨by decide, fun _ _ _ _ _ _ _ => rfl⟩, ⟨⟨by decide, fun _ _ _ _ _ _ _ => rfl⟩, trivial⟩⟩
theorem c__law_draw : dfB (tabS.map (·.1)) cons d__law_draw (stm 17) = true := by decide +kernel
theorem b__law_draw : BdOk d__law_draw (stm 17) := bd_of (l := [2]) ⟨⟨by decide, fun _ _ _ _ _ _ _ _ => rfl⟩, trivial⟩
theorem c__law_pick : dfB (tabS.map (·.1)) cons d__law_pick (stm 18) = true := by decide +kernel
theorem b__law_pick : BdOk d__law_pick (stm 18) := bd_of (l := [2]) ⟨⟨by decide, fun _ _ _ _ _ _ _ _ => rfl⟩, trivial⟩
theorem c__law_int : dfB (tabS.map (·.1)) cons d__law_int (stm 19) = true := by decide +kernel
theorem b__law_int : BdOk d__law_int (stm 19) := bd_of (l := [1]) ⟨⟨by decide, fun _ _ _ _ _ _ _ => rfl⟩, trivial⟩
theorem c__law_same : dfB (tabS.map (·.1)) cons d__law_same (stm 20) = true := by decide +kernel
theorem b__law_same : BdOk d__law_same (stm 20) := bd_of (l := [2]) ⟨⟨by decide, fun _ _ _ _ _ _ _ _ => rfl⟩, trivial⟩
theorem c__law_odd : dfB (tabS.map (·.1)) cons d__law_odd (stm 21) = true := by decide +kernel
theorem b__law_odd : BdOk d__law_odd (stm 21) := bd_of (l := [1]) ⟨⟨by decide, fun _ _ _ _ _ _ _ => rfl⟩, trivial⟩
theorem c__law_other : dfB (tabS.map (·.1)) cons d__law_other (stm 22) = true := by decide +kernel
theorem b__law_other : BdOk d__law_other (stm 22) := bd_of (l := [3]) ⟨⟨by decide, fun _ _ _ _ _ _ _ _ _ => rfl⟩, trivial⟩
theorem c__law_bools : dfB (tabS.map (·.1)) cons d__law_bools (stm 23) = true := by decide +kernel
theorem b__law_bools : BdOk d__law_bools (stm 23) := bd_of (l := [1]) ⟨⟨by decide, fun _ _ _ _ _ _ _ => rfl⟩, trivial⟩
theorem c__law_due_ties : dfB (tabS.map (·.1)) cons d__law_due_ties (stm 24) = true := by decide +kernel
theorem b__law_due_ties : BdOk d__law_due_ties (stm 24) := bd_of (l := [1]) ⟨⟨by decide, fun _ _ _ _ _ _ _ => rfl⟩, trivial⟩
theorem c__law_due_colours : dfB (tabS.map (·.1)) cons d__law_due_colours (stm 25) = true := by decide +kernel
theorem b__law_due_colours : BdOk d__law_due_colours (stm 25) := bd_of (l := [2]) ⟨⟨by decide, fun _ _ _ _ _ _ _ _ => rfl⟩, trivial⟩
theorem c__law_judged : dfB (tabS.map (·.1)) cons d__law_judged (stm 26) = true := by decide +kernel
theorem b__law_judged : BdOk d__law_judged (stm 26) := bd_of (l := [4]) ⟨⟨by decide, fun _ _ _ _ _ _ _ _ _ _ => rfl⟩, trivial⟩
theorem c__law_forest : dfB (tabS.map (·.1)) cons d__law_forest (stm 27) = true := by decide +kernel
theorem b__law_forest : BdOk d__law_forest (stm 27) := bd_of (l := [3]) ⟨⟨by decide, fun _ _ _ _ _ _ _ _ _ => rfl⟩, trivial⟩
theorem c__law_tower : dfB (tabS.map (·.1)) cons d__law_tower (stm 28) = true := by decide +kernel
theorem b__law_tower : BdOk d__law_tower (stm 28) := bd_of (l := [1]) ⟨⟨by decide, fun _ _ _ _ _ _ _ => rfl⟩, trivial⟩
theorem c__law_coming : dfB (tabS.map (·.1)) cons d__law_coming (stm 29) = true := by decide +kernel
theorem b__law_coming : BdOk d__law_coming (stm 29) := bd_of (l := [2]) ⟨⟨by decide, fun _ _ _ _ _ _ _ _ => rfl⟩, trivial⟩
theorem c__law_ring : dfB (tabS.map (·.1)) cons d__law_ring (stm 30) = true := by decide +kernel
theorem b__law_ring : BdOk d__law_ring (stm 30) := bd_of (l := [3]) ⟨⟨by decide, fun _ _ _ _ _ _ _ _ _ => rfl⟩, trivial⟩
theorem c__law_thick : dfB (tabS.map (·.1)) cons d__law_thick (stm 31) = true := by decide +kernel
theorem b__law_thick : BdOk d__law_thick (stm 31) := bd_of (l := [3]) ⟨⟨by decide, fun _ _ _ _ _ _ _ _ _ => rfl⟩, trivial⟩
theorem c__law_ties : dfB (tabS.map (·.1)) cons d__law_ties (stm 32) = true := by decide +kernel
theorem b__law_ties : BdOk d__law_ties (stm 32) := bd_of (l := [1]) ⟨⟨by decide, fun _ _ _ _ _ _ _ => rfl⟩, trivial⟩
theorem c__law_facts : dfB (tabS.map (·.1)) cons d__law_facts (stm 33) = true := by decide +kernel
theorem b__law_facts : BdOk d__law_facts (stm 33) := bd_of (l := [1]) ⟨⟨by decide, fun _ _ _ _ _ _ _ => rfl⟩, trivial⟩
theorem c__law_odd_ring : dfB (tabS.map (·.1)) cons d__law_odd_ring (stm 34) = true := by decide +kernel
theorem b__law_odd_ring : BdOk d__law_odd_ring (stm 34) := bd_of (l := [2]) ⟨⟨by decide, fun _ _ _ _ _ _ _ _ => rfl⟩, trivial⟩
theorem c__law_is_full : dfB (tabS.map (·.1)) cons d__law_is_full (stm 35) = true := by decide +kernel
theorem b__law_is_full : BdOk d__law_is_full (stm 35) := bd_of (l := [2]) ⟨⟨by decide, fun _ _ _ _ _ _ _ _ => rfl⟩, trivial⟩
theorem c__law_read : dfB (tabS.map (·.1)) cons d__law_read (stm 36) = true := by decide +kernel
theorem b__law_read : BdOk d__law_read (stm 36) := bd_of (l := [3]) ⟨⟨by decide, fun _ _ _ _ _ _ _ _ _ => rfl⟩, trivial⟩
theorem c__law_spoils : dfB (tabS.map (·.1)) cons d__law_spoils (stm 37) = true := by decide +kernel
theorem b__law_spoils : BdOk d__law_spoils (stm 37) := bd_of (l := [4]) ⟨⟨by decide, fun _ _ _ _ _ _ _ _ _ _ => rfl⟩, trivial⟩
theorem txt : TxtOk tabS cons := txt_of ⟨⟨c_is_integer, b_is_integer, rfl⟩, ⟨⟨c_is_whole, b_is_whole, rfl⟩, ⟨⟨c_is_tuple, b_is_tuple, rfl⟩, ⟨⟨c_are_places, b_are_places, rfl⟩, ⟨⟨c_power_of, b_power_of, rfl⟩, ⟨⟨c_ties_error, b_ties_error, rfl⟩, ⟨⟨c_is_forest, b_is_forest, rfl⟩, ⟨⟨c_least_colours, b_least_colours, rfl⟩, ⟨⟨c_colours_error, b_colours_error, rfl⟩, ⟨⟨c_two_colours, b_two_colours, rfl⟩, ⟨⟨c_colour_tower, b_colour_tower, rfl⟩, ⟨⟨c_fewest_knots, b_fewest_knots, rfl⟩, ⟨⟨c__law_draw, b__law_draw, rfl⟩, ⟨⟨c__law_pick, b__law_pick, rfl⟩, ⟨⟨c__law_int, b__law_int, rfl⟩, ⟨⟨c__law_same, b__law_same, rfl⟩, ⟨⟨c__law_odd, b__law_odd, rfl⟩, ⟨⟨c__law_other, b__law_other, rfl⟩, ⟨⟨c__law_bools, b__law_bools, rfl⟩, ⟨⟨c__law_due_ties, b__law_due_ties, rfl⟩, ⟨⟨c__law_due_colours, b__law_due_colours, rfl⟩, ⟨⟨c__law_judged, b__law_judged, rfl⟩, ⟨⟨c__law_forest, b__law_forest, rfl⟩, ⟨⟨c__law_tower, b__law_tower, rfl⟩, ⟨⟨c__law_coming, b__law_coming, rfl⟩, ⟨⟨c__law_ring, b__law_ring, rfl⟩, ⟨⟨c__law_thick, b__law_thick, rfl⟩, ⟨⟨c__law_ties, b__law_ties, rfl⟩, ⟨⟨c__law_facts, b__law_facts, rfl⟩, ⟨⟨c__law_odd_ring, b__law_odd_ring, rfl⟩, ⟨⟨c__law_is_full, b__law_is_full, rfl⟩, ⟨⟨c__law_read, b__law_read, rfl⟩, ⟨⟨c__law_spoils, b__law_spoils, rfl⟩, trivial⟩⟩⟩⟩⟩⟩⟩⟩⟩⟩⟩⟩⟩⟩⟩⟩⟩⟩⟩⟩⟩⟩⟩⟩⟩⟩⟩⟩⟩⟩⟩⟩⟩
theorem ltxt : LawTxt tabS cons (stm 16) (stm 38) d__law_bag.N d_law.N bagT bagEl bagOwn d__law_bag.body d_law.body where
  txt := txt
  b1 := by decide +kernel
  b2 := by decide +kernel
  b3 := by decide +kernel
  b4 := by decide +kernel
  l1 := by decide +kernel
  l2 := by decide +kernel
  l3 := by decide +kernel
  l4 := by decide +kernel
  b5 := fun _ _ _ _ _ _ _ => rfl
  l5 := fun _ _ _ _ _ _ _ => rfl
  l6 := by decide
end k83_whole_forests_towers

set_option autoImplicit false
local macro_rules
  | `(tactic| simp_arith [$as,*]) => `(tactic| simp only [Mz.wR_some, Mz.wR_none, Mz.wR_map, Mz.ifc_false, Mz.wR_ifc, Mz.wR_ite, Mz.ownS_own, Mz.canS_some, Mz.setOk_no, Mz.setOk_val, Mz.setOk_own, Mz.quietB_no, Mz.quietB_val, Mz.isBg_bag, Mz.retL_val, Mz.retL_own, Mz.retL_lck, Mz.setOk_of_quiet, Mz.fzs_nil, Mz.fzs_cons, Mz.fzG_own, Mz.fzG_val, Mz.fzG_no, Mz.fzG_quiet, Mz.wipeR_nil, Mz.wipeR_cons, Mz.putBack_nil, Mz.putBack_cons, Mz.pbG_some, Mz.lockR_nil, Mz.lockR_cons, Mz.lkG_own, Mz.lkG_lck, Mz.lkG_val, Mz.freeR_nil, Mz.freeR_cons, Mz.frG_own, Mz.frG_lck, Mz.frG_val, Mz.rd_d, Mz.rd_nw, Mz.rd_loc, Mz.rdS_val, Mz.rdS_own, Mz.rdS_lck, Mz.rds_nil, Mz.rds_cons, Mz.retU_d, Mz.retU_nw, Mz.retU_loc, Mz.asB_bool, Mz.Ru_d, Mz.Ru_nw, Mz.lkOf_d, Mz.lkOf_nw, Mz.lkOf_loc, Mz.slot0_d, Mz.slot0_bag, Mz.init_G, Mz.intD_int, Mz.lstD_list, Mz.seqD_list, Mz.seqD_tuple, Mz.g_zero, Mz.g_succ, Mz.s_zero, Mz.s_succ, Mz.m_cons, Mz.m_nil, Mz.a_nil, Mz.a_cons, Mz.nil_a, Mz.o_some, Mz.o_none, Mz.o_map, Mz.o_mapn, Mz.l_cons, Mz.l_nil, Mz.r_zero, Mz.r_succ, Mz.i_t, Mz.i_f, Mz.i_T, Mz.i_F, Mz.d_T, Mz.d_F, Mz.d_eq, Mz.b_tt, Mz.b_ft, Mz.t_and, Mz.and_t, Mz.f_and, Mz.n_t, Mz.n_f, Mz.z_le, Mz.p_1, Mz.p_2, Mz.z_r, Mz.z_b, Mz.sizeLine_G, Mz.binS_add, Mz.binS_sub, Mz.binS_mul, Mz.binS_mod, Mz.binS_fdiv, Mz.binS_pow, Mz.addS_int, Mz.addS_list, Mz.addS_tuple, Mz.subS_int, Mz.mulS_int, Mz.mulS_list, Mz.modS_int, Mz.fdivS_int, Mz.powS_int, Mz.cmpS_eq, Mz.cmpS_ne, Mz.cmpS_lt, Mz.cmpS_le, Mz.cmpS_gt, Mz.cmpS_ge, Mz.cmpS_in, Mz.cmpS_ni, Mz.eqS_int, Mz.eqS_bool, Mz.eqS_str, Mz.eqS_nil, Mz.isi_int_int, Mz.isi_int_bool, Mz.isi_int_none, Mz.isi_int_str, Mz.isi_int_list, Mz.isi_int_tuple, Mz.isi_int_dict, Mz.isi_bool_int, Mz.isi_bool_bool, Mz.isi_bool_none, Mz.isi_bool_str, Mz.isi_bool_list, Mz.isi_bool_tuple, Mz.isi_bool_dict, Mz.isi_str_int, Mz.isi_str_bool, Mz.isi_str_none, Mz.isi_str_str, Mz.isi_str_list, Mz.isi_str_tuple, Mz.isi_str_dict, Mz.isi_tuple_int, Mz.isi_tuple_bool, Mz.isi_tuple_none, Mz.isi_tuple_str, Mz.isi_tuple_list, Mz.isi_tuple_tuple, Mz.isi_tuple_dict, Mz.isC_nn, Mz.isC_ni, Mz.isC_nb, Mz.isC_ns, Mz.isC_nl, Mz.isC_nt, Mz.isC_nd, Mz.isC_bb, Mz.isC_bi, Mz.isC_bn, Mz.isC_bs, Mz.isC_bl, Mz.isC_bt, Mz.isC_bd, Mz.idxS_list, Mz.idxS_tuple, Mz.slcS_list, Mz.slcS_tuple, Mz.bis_len, Mz.bis_list, Mz.bis_tuple, Mz.bis_sum, Mz.bis_max, Mz.bis_min, Mz.bis_sorted, Mz.bis_all, Mz.bis_any, Mz.bis_abs, Mz.bis_int, Mz.bis_str, Mz.bis_repr, Mz.lenS_list, Mz.lenS_tuple, Mz.listS_list, Mz.listS_tuple, Mz.tupleS_list, Mz.tupleS_tuple, Mz.sumS_list, Mz.sortS_list, Mz.allS_list, Mz.anyS_list, Mz.mmS_ii, Mz.intS_int, Mz.absS_int, Mz.strS_int, Mz.reprS_G, Mz.x_cht, Mz.x_chf, Mz.x_andt, Mz.x_andf, Mz.x_ort, Mz.x_orf, Mz.x_itt, Mz.x_itf, Mz.w2, Mz.varK_val, Mz.varK_own, Mz.varK_lck, Mz.varK_bag, Mz.escK_val, Mz.escK_own, Mz.wEc_d, Mz.wEc_nw, Mz.wEc_loc, Mz.wEs_nil, Mz.wEs_cons, Mz.wA_nil, Mz.wA_cons, Mz.wAu_bag, Mz.wAu_d, Mz.wAu_nw, Mz.wAu_loc, Mz.wRs_d, Mz.wRs_nw, Mz.wRs_loc, Mz.wRL_nil, Mz.wRL_cons, Mz.w_var, Mz.w_glob, Mz.w_cst, Mz.ifc_dec, Mz.w_tup, Mz.w_lst, Mz.w_bin, Mz.w_cmp, Mz.w_tmul, Mz.w_chain, Mz.w_isc, Mz.w_not, Mz.w_neg, Mz.w_and1, Mz.w_and2, Mz.w_or1, Mz.w_or2, Mz.w_ite, Mz.w_idx, Mz.w_slc0, Mz.w_slcL, Mz.w_slcH, Mz.w_slcLH, Mz.w_bi, Mz.w_isi, Mz.w_lrg1, Mz.w_lrev, Mz.w_lset, Mz.w_ldict, Mz.w_app, Mz.w_ext, Mz.w_pop, Mz.w_popAt, Mz.w_cnt, Mz.w_comp, Mz.w_call, Mz.w_bix, Mz.w_bnil, Mz.w_bpop, Mz.w_dict0, Mz.w_dict1, Mz.wl_nil, Mz.wl_cons, Mz.wi_val, Mz.wi_rg1, Mz.wi_rg2, Mz.wi_enum, Mz.wi_zip, Mz.wi_rev, Mz.x_sqn, Mz.x_sqb, Mz.x_sqc, Mz.x_sqr, Mz.ws_nil, Mz.ws_cons, Mz.ws_skip, Mz.ws_brk, Mz.ws_cnt, Mz.ws_expr, Mz.ws_par, Mz.ws_set, Mz.ws_setIx, Mz.ws_bset, Mz.x_cot, Mz.x_cof, Mz.ws_cond, Mz.ws_loop, Mz.ws_ret, Mz.ws_ret0, Mz.wt_nm, Mz.wt_tup, Mz.wts_nil, Mz.wts_cons, Mz.x_enn, Mz.x_enr, Mz.x_fkn, Mz.x_fkc, Mz.x_fkb, Mz.x_fkr, Mz.frl_nx, Mz.frl_rt, Mz.x_ctt, Mz.x_ctf, Mz.KRu, Mz.KB, Mz.KEs2, Mz.KEs, Mz.KTup2, Mz.KTup, Mz.KLst2, Mz.KLst, Mz.KBin3, Mz.KBin2, Mz.KBin, Mz.KTm3, Mz.KTm2, Mz.KTm, Mz.KCmp3, Mz.KCmp2, Mz.KCmp, Mz.KCh4, Mz.KCh2b, Mz.KCh2, Mz.KCh, Mz.KIsc2, Mz.KIsc, Mz.KNot2, Mz.KNot, Mz.KNeg3, Mz.KNeg2, Mz.KNeg, Mz.KAnd, Mz.KOr, Mz.KIte, Mz.KIdx3, Mz.KIdx2, Mz.KIdx, Mz.KSl0, Mz.KSlc0, Mz.KSl1, Mz.KSlL3, Mz.KSlL2, Mz.KSlL, Mz.KSh1, Mz.KSlH3, Mz.KSlH2, Mz.KSlH, Mz.KSb5, Mz.KSb4, Mz.KSb3, Mz.KSb2, Mz.KSb1, Mz.KSlB2, Mz.KSlB, Mz.KBi2, Mz.KBi, Mz.KIsi2, Mz.KIsi, Mz.KLrg3, Mz.KLrg2, Mz.KLrg, Mz.KLrv3, Mz.KLrv2, Mz.KLrv, Mz.KLst5, Mz.KLst4, Mz.KLset2, Mz.KLset, Mz.KLdi5, Mz.KLdi4, Mz.KLdi2, Mz.KLdi, Mz.KApp3, Mz.KApp2, Mz.KApp1, Mz.KApp, Mz.KExt4, Mz.KExt3, Mz.KExt2, Mz.KExt1, Mz.KExt, Mz.KPop2, Mz.KPop, Mz.KPa6, Mz.KPa5, Mz.KPa4, Mz.KPa3, Mz.KPa2, Mz.KPa1, Mz.KPa, Mz.KCn6, Mz.KCn5, Mz.KCn4, Mz.KCn3, Mz.KCn2, Mz.KCn1, Mz.KCn0, Mz.KCn, Mz.KCa4, Mz.KCa3, Mz.KCa2, Mz.KCa, Mz.KAl2, Mz.KAl, Mz.KAd, Mz.KLc2, Mz.KLc, Mz.KBn, Mz.KBp, Mz.KRd, Mz.KRl2, Mz.KRl, Mz.KIv3, Mz.KIv2, Mz.KIv, Mz.KIr3, Mz.KIr2, Mz.KIr, Mz.KIq4, Mz.KIq3, Mz.KIq2, Mz.KIq, Mz.KIe3, Mz.KIe2, Mz.KIe, Mz.KIz4, Mz.KIz3, Mz.KIz2, Mz.KIz, Mz.KIw3, Mz.KIw2, Mz.KIw, Mz.KExp, Mz.KPar4, Mz.KPar3, Mz.KPar, Mz.KSet3, Mz.KSet, Mz.KIx6, Mz.KIx5, Mz.KIx4, Mz.KIx3, Mz.KIx2, Mz.KIx1, Mz.KIx0, Mz.KIx, Mz.KBs3, Mz.KBs2, Mz.KBs, Mz.KCo, Mz.KRt2, Mz.KRt, Mz.KTs, Mz.KFor, Mz.KCt3, Mz.KCt2, Mz.KCt0, Mz.KCt, Mz.KCoI2, Mz.KCoI, Mz.KCoP2, Mz.KCoP, Mz.KCoM2, Mz.KCoM, Mz.x_st0, Mz.x_std, Mz.x_stn, Mz.KEnu, Mz.x_qen, Mz.x_qer, Nat.reduceAdd, Nat.reduceSub, Nat.reduceLeDiff, eq_self, Nat.reduceMul, Nat.reduceEqDiff, $as,*])
  | `(tactic| simp_arith only [$as,*]) => `(tactic| simp only [Mz.wR_some, Mz.wR_none, Mz.wR_map, Mz.ifc_false, Mz.wR_ifc, Mz.wR_ite, Mz.ownS_own, Mz.canS_some, Mz.setOk_no, Mz.setOk_val, Mz.setOk_own, Mz.quietB_no, Mz.quietB_val, Mz.isBg_bag, Mz.retL_val, Mz.retL_own, Mz.retL_lck, Mz.setOk_of_quiet, Mz.fzs_nil, Mz.fzs_cons, Mz.fzG_own, Mz.fzG_val, Mz.fzG_no, Mz.fzG_quiet, Mz.wipeR_nil, Mz.wipeR_cons, Mz.putBack_nil, Mz.putBack_cons, Mz.pbG_some, Mz.lockR_nil, Mz.lockR_cons, Mz.lkG_own, Mz.lkG_lck, Mz.lkG_val, Mz.freeR_nil, Mz.freeR_cons, Mz.frG_own, Mz.frG_lck, Mz.frG_val, Mz.rd_d, Mz.rd_nw, Mz.rd_loc, Mz.rdS_val, Mz.rdS_own, Mz.rdS_lck, Mz.rds_nil, Mz.rds_cons, Mz.retU_d, Mz.retU_nw, Mz.retU_loc, Mz.asB_bool, Mz.Ru_d, Mz.Ru_nw, Mz.lkOf_d, Mz.lkOf_nw, Mz.lkOf_loc, Mz.slot0_d, Mz.slot0_bag, Mz.init_G, Mz.intD_int, Mz.lstD_list, Mz.seqD_list, Mz.seqD_tuple, Mz.g_zero, Mz.g_succ, Mz.s_zero, Mz.s_succ, Mz.m_cons, Mz.m_nil, Mz.a_nil, Mz.a_cons, Mz.nil_a, Mz.o_some, Mz.o_none, Mz.o_map, Mz.o_mapn, Mz.l_cons, Mz.l_nil, Mz.r_zero, Mz.r_succ, Mz.i_t, Mz.i_f, Mz.i_T, Mz.i_F, Mz.d_T, Mz.d_F, Mz.d_eq, Mz.b_tt, Mz.b_ft, Mz.t_and, Mz.and_t, Mz.f_and, Mz.n_t, Mz.n_f, Mz.z_le, Mz.p_1, Mz.p_2, Mz.z_r, Mz.z_b, Mz.sizeLine_G, Mz.binS_add, Mz.binS_sub, Mz.binS_mul, Mz.binS_mod, Mz.binS_fdiv, Mz.binS_pow, Mz.addS_int, Mz.addS_list, Mz.addS_tuple, Mz.subS_int, Mz.mulS_int, Mz.mulS_list, Mz.modS_int, Mz.fdivS_int, Mz.powS_int, Mz.cmpS_eq, Mz.cmpS_ne, Mz.cmpS_lt, Mz.cmpS_le, Mz.cmpS_gt, Mz.cmpS_ge, Mz.cmpS_in, Mz.cmpS_ni, Mz.eqS_int, Mz.eqS_bool, Mz.eqS_str, Mz.eqS_nil, Mz.isi_int_int, Mz.isi_int_bool, Mz.isi_int_none, Mz.isi_int_str, Mz.isi_int_list, Mz.isi_int_tuple, Mz.isi_int_dict, Mz.isi_bool_int, Mz.isi_bool_bool, Mz.isi_bool_none, Mz.isi_bool_str, Mz.isi_bool_list, Mz.isi_bool_tuple, Mz.isi_bool_dict, Mz.isi_str_int, Mz.isi_str_bool, Mz.isi_str_none, Mz.isi_str_str, Mz.isi_str_list, Mz.isi_str_tuple, Mz.isi_str_dict, Mz.isi_tuple_int, Mz.isi_tuple_bool, Mz.isi_tuple_none, Mz.isi_tuple_str, Mz.isi_tuple_list, Mz.isi_tuple_tuple, Mz.isi_tuple_dict, Mz.isC_nn, Mz.isC_ni, Mz.isC_nb, Mz.isC_ns, Mz.isC_nl, Mz.isC_nt, Mz.isC_nd, Mz.isC_bb, Mz.isC_bi, Mz.isC_bn, Mz.isC_bs, Mz.isC_bl, Mz.isC_bt, Mz.isC_bd, Mz.idxS_list, Mz.idxS_tuple, Mz.slcS_list, Mz.slcS_tuple, Mz.bis_len, Mz.bis_list, Mz.bis_tuple, Mz.bis_sum, Mz.bis_max, Mz.bis_min, Mz.bis_sorted, Mz.bis_all, Mz.bis_any, Mz.bis_abs, Mz.bis_int, Mz.bis_str, Mz.bis_repr, Mz.lenS_list, Mz.lenS_tuple, Mz.listS_list, Mz.listS_tuple, Mz.tupleS_list, Mz.tupleS_tuple, Mz.sumS_list, Mz.sortS_list, Mz.allS_list, Mz.anyS_list, Mz.mmS_ii, Mz.intS_int, Mz.absS_int, Mz.strS_int, Mz.reprS_G, Mz.x_cht, Mz.x_chf, Mz.x_andt, Mz.x_andf, Mz.x_ort, Mz.x_orf, Mz.x_itt, Mz.x_itf, Mz.w2, Mz.varK_val, Mz.varK_own, Mz.varK_lck, Mz.varK_bag, Mz.escK_val, Mz.escK_own, Mz.wEc_d, Mz.wEc_nw, Mz.wEc_loc, Mz.wEs_nil, Mz.wEs_cons, Mz.wA_nil, Mz.wA_cons, Mz.wAu_bag, Mz.wAu_d, Mz.wAu_nw, Mz.wAu_loc, Mz.wRs_d, Mz.wRs_nw, Mz.wRs_loc, Mz.wRL_nil, Mz.wRL_cons, Mz.w_var, Mz.w_glob, Mz.w_cst, Mz.ifc_dec, Mz.w_tup, Mz.w_lst, Mz.w_bin, Mz.w_cmp, Mz.w_tmul, Mz.w_chain, Mz.w_isc, Mz.w_not, Mz.w_neg, Mz.w_and1, Mz.w_and2, Mz.w_or1, Mz.w_or2, Mz.w_ite, Mz.w_idx, Mz.w_slc0, Mz.w_slcL, Mz.w_slcH, Mz.w_slcLH, Mz.w_bi, Mz.w_isi, Mz.w_lrg1, Mz.w_lrev, Mz.w_lset, Mz.w_ldict, Mz.w_app, Mz.w_ext, Mz.w_pop, Mz.w_popAt, Mz.w_cnt, Mz.w_comp, Mz.w_call, Mz.w_bix, Mz.w_bnil, Mz.w_bpop, Mz.w_dict0, Mz.w_dict1, Mz.wl_nil, Mz.wl_cons, Mz.wi_val, Mz.wi_rg1, Mz.wi_rg2, Mz.wi_enum, Mz.wi_zip, Mz.wi_rev, Mz.x_sqn, Mz.x_sqb, Mz.x_sqc, Mz.x_sqr, Mz.ws_nil, Mz.ws_cons, Mz.ws_skip, Mz.ws_brk, Mz.ws_cnt, Mz.ws_expr, Mz.ws_par, Mz.ws_set, Mz.ws_setIx, Mz.ws_bset, Mz.x_cot, Mz.x_cof, Mz.ws_loop, Mz.ws_ret, Mz.ws_ret0, Mz.wt_nm, Mz.wt_tup, Mz.wts_nil, Mz.wts_cons, Mz.x_enn, Mz.x_enr, Mz.x_fkn, Mz.x_fkc, Mz.x_fkb, Mz.x_fkr, Mz.frl_nx, Mz.frl_rt, Mz.x_ctt, Mz.x_ctf, Mz.KRu, Mz.KB, Mz.KEs2, Mz.KEs, Mz.KTup2, Mz.KTup, Mz.KLst2, Mz.KLst, Mz.KBin3, Mz.KBin2, Mz.KBin, Mz.KTm3, Mz.KTm2, Mz.KTm, Mz.KCmp3, Mz.KCmp2, Mz.KCmp, Mz.KCh4, Mz.KCh2b, Mz.KCh2, Mz.KCh, Mz.KIsc2, Mz.KIsc, Mz.KNot2, Mz.KNot, Mz.KNeg3, Mz.KNeg2, Mz.KNeg, Mz.KAnd, Mz.KOr, Mz.KIte, Mz.KIdx3, Mz.KIdx2, Mz.KIdx, Mz.KSl0, Mz.KSlc0, Mz.KSl1, Mz.KSlL3, Mz.KSlL2, Mz.KSlL, Mz.KSh1, Mz.KSlH3, Mz.KSlH2, Mz.KSlH, Mz.KSb5, Mz.KSb4, Mz.KSb3, Mz.KSb2, Mz.KSb1, Mz.KSlB2, Mz.KSlB, Mz.KBi2, Mz.KBi, Mz.KIsi2, Mz.KIsi, Mz.KLrg3, Mz.KLrg2, Mz.KLrg, Mz.KLrv3, Mz.KLrv2, Mz.KLrv, Mz.KLst5, Mz.KLst4, Mz.KLset2, Mz.KLset, Mz.KLdi5, Mz.KLdi4, Mz.KLdi2, Mz.KLdi, Mz.KApp3, Mz.KApp2, Mz.KApp1, Mz.KApp, Mz.KExt4, Mz.KExt3, Mz.KExt2, Mz.KExt1, Mz.KExt, Mz.KPop2, Mz.KPop, Mz.KPa6, Mz.KPa5, Mz.KPa4, Mz.KPa3, Mz.KPa2, Mz.KPa1, Mz.KPa, Mz.KCn6, Mz.KCn5, Mz.KCn4, Mz.KCn3, Mz.KCn2, Mz.KCn1, Mz.KCn0, Mz.KCn, Mz.KCa4, Mz.KCa3, Mz.KCa2, Mz.KCa, Mz.KAl2, Mz.KAl, Mz.KAd, Mz.KLc2, Mz.KLc, Mz.KBn, Mz.KBp, Mz.KRd, Mz.KRl2, Mz.KRl, Mz.KIv3, Mz.KIv2, Mz.KIv, Mz.KIr3, Mz.KIr2, Mz.KIr, Mz.KIq4, Mz.KIq3, Mz.KIq2, Mz.KIq, Mz.KIe3, Mz.KIe2, Mz.KIe, Mz.KIz4, Mz.KIz3, Mz.KIz2, Mz.KIz, Mz.KIw3, Mz.KIw2, Mz.KIw, Mz.KExp, Mz.KPar4, Mz.KPar3, Mz.KPar, Mz.KSet3, Mz.KSet, Mz.KIx6, Mz.KIx5, Mz.KIx4, Mz.KIx3, Mz.KIx2, Mz.KIx1, Mz.KIx0, Mz.KIx, Mz.KBs3, Mz.KBs2, Mz.KBs, Mz.KCo, Mz.KRt2, Mz.KRt, Mz.KTs, Mz.KFor, Mz.KCt3, Mz.KCt2, Mz.KCt0, Mz.KCt, Mz.KCoI2, Mz.KCoI, Mz.KCoP2, Mz.KCoP, Mz.KCoM2, Mz.KCoM, Mz.x_st0, Mz.x_std, Mz.x_stn, Mz.KEnu, Mz.x_qen, Mz.x_qer, Nat.reduceAdd, Nat.reduceSub, Nat.reduceLeDiff, eq_self, Nat.reduceMul, Nat.reduceEqDiff, $as,*])
  | `(tactic| simp_arith! [$as,*]) => `(tactic| simp only [Mz.wR_some, Mz.wR_none, Mz.wR_map, Mz.ifc_false, Mz.wR_ifc, Mz.wR_ite, Mz.ownS_own, Mz.canS_some, Mz.setOk_no, Mz.setOk_val, Mz.setOk_own, Mz.quietB_no, Mz.quietB_val, Mz.isBg_bag, Mz.retL_val, Mz.retL_own, Mz.retL_lck, Mz.setOk_of_quiet, Mz.fzs_nil, Mz.fzs_cons, Mz.fzG_own, Mz.fzG_val, Mz.fzG_no, Mz.fzG_quiet, Mz.wipeR_nil, Mz.wipeR_cons, Mz.putBack_nil, Mz.putBack_cons, Mz.pbG_some, Mz.lockR_nil, Mz.lockR_cons, Mz.lkG_own, Mz.lkG_lck, Mz.lkG_val, Mz.freeR_nil, Mz.freeR_cons, Mz.frG_own, Mz.frG_lck, Mz.frG_val, Mz.rd_d, Mz.rd_nw, Mz.rd_loc, Mz.rdS_val, Mz.rdS_own, Mz.rdS_lck, Mz.rds_nil, Mz.rds_cons, Mz.retU_d, Mz.retU_nw, Mz.retU_loc, Mz.asB_bool, Mz.Ru_d, Mz.Ru_nw, Mz.lkOf_d, Mz.lkOf_nw, Mz.lkOf_loc, Mz.slot0_d, Mz.slot0_bag, Mz.init_G, Mz.intD_int, Mz.lstD_list, Mz.seqD_list, Mz.seqD_tuple, Mz.g_zero, Mz.g_succ, Mz.s_zero, Mz.s_succ, Mz.m_cons, Mz.m_nil, Mz.a_nil, Mz.a_cons, Mz.nil_a, Mz.o_some, Mz.o_none, Mz.o_map, Mz.o_mapn, Mz.l_cons, Mz.l_nil, Mz.r_zero, Mz.r_succ, Mz.i_t, Mz.i_f, Mz.i_T, Mz.i_F, Mz.d_T, Mz.d_F, Mz.d_eq, Mz.b_tt, Mz.b_ft, Mz.t_and, Mz.and_t, Mz.f_and, Mz.n_t, Mz.n_f, Mz.z_le, Mz.p_1, Mz.p_2, Mz.z_r, Mz.z_b, Mz.sizeLine_G, Mz.binS_add, Mz.binS_sub, Mz.binS_mul, Mz.binS_mod, Mz.binS_fdiv, Mz.binS_pow, Mz.addS_int, Mz.addS_list, Mz.addS_tuple, Mz.subS_int, Mz.mulS_int, Mz.mulS_list, Mz.modS_int, Mz.fdivS_int, Mz.powS_int, Mz.cmpS_eq, Mz.cmpS_ne, Mz.cmpS_lt, Mz.cmpS_le, Mz.cmpS_gt, Mz.cmpS_ge, Mz.cmpS_in, Mz.cmpS_ni, Mz.eqS_int, Mz.eqS_bool, Mz.eqS_str, Mz.eqS_nil, Mz.isi_int_int, Mz.isi_int_bool, Mz.isi_int_none, Mz.isi_int_str, Mz.isi_int_list, Mz.isi_int_tuple, Mz.isi_int_dict, Mz.isi_bool_int, Mz.isi_bool_bool, Mz.isi_bool_none, Mz.isi_bool_str, Mz.isi_bool_list, Mz.isi_bool_tuple, Mz.isi_bool_dict, Mz.isi_str_int, Mz.isi_str_bool, Mz.isi_str_none, Mz.isi_str_str, Mz.isi_str_list, Mz.isi_str_tuple, Mz.isi_str_dict, Mz.isi_tuple_int, Mz.isi_tuple_bool, Mz.isi_tuple_none, Mz.isi_tuple_str, Mz.isi_tuple_list, Mz.isi_tuple_tuple, Mz.isi_tuple_dict, Mz.isC_nn, Mz.isC_ni, Mz.isC_nb, Mz.isC_ns, Mz.isC_nl, Mz.isC_nt, Mz.isC_nd, Mz.isC_bb, Mz.isC_bi, Mz.isC_bn, Mz.isC_bs, Mz.isC_bl, Mz.isC_bt, Mz.isC_bd, Mz.idxS_list, Mz.idxS_tuple, Mz.slcS_list, Mz.slcS_tuple, Mz.bis_len, Mz.bis_list, Mz.bis_tuple, Mz.bis_sum, Mz.bis_max, Mz.bis_min, Mz.bis_sorted, Mz.bis_all, Mz.bis_any, Mz.bis_abs, Mz.bis_int, Mz.bis_str, Mz.bis_repr, Mz.lenS_list, Mz.lenS_tuple, Mz.listS_list, Mz.listS_tuple, Mz.tupleS_list, Mz.tupleS_tuple, Mz.sumS_list, Mz.sortS_list, Mz.allS_list, Mz.anyS_list, Mz.mmS_ii, Mz.intS_int, Mz.absS_int, Mz.strS_int, Mz.reprS_G, Mz.x_cht, Mz.x_chf, Mz.x_andt, Mz.x_andf, Mz.x_ort, Mz.x_orf, Mz.x_itt, Mz.x_itf, Mz.w2, Mz.varK_val, Mz.varK_own, Mz.varK_lck, Mz.varK_bag, Mz.escK_val, Mz.escK_own, Mz.wEc_d, Mz.wEc_nw, Mz.wEc_loc, Mz.wEs_nil, Mz.wEs_cons, Mz.wA_nil, Mz.wA_cons, Mz.wAu_bag, Mz.wAu_d, Mz.wAu_nw, Mz.wAu_loc, Mz.wRs_d, Mz.wRs_nw, Mz.wRs_loc, Mz.wRL_nil, Mz.wRL_cons, Mz.w_var, Mz.w_glob, Mz.w_cst, Mz.ifc_dec, Mz.w_tup, Mz.w_lst, Mz.w_bin, Mz.w_cmp, Mz.w_tmul, Mz.w_chain, Mz.w_isc, Mz.w_not, Mz.w_neg, Mz.w_and1, Mz.w_and2, Mz.w_or1, Mz.w_or2, Mz.w_ite, Mz.w_idx, Mz.w_slc0, Mz.w_slcL, Mz.w_slcH, Mz.w_slcLH, Mz.w_bi, Mz.w_isi, Mz.w_lrg1, Mz.w_lrev, Mz.w_lset, Mz.w_ldict, Mz.w_app, Mz.w_ext, Mz.w_pop, Mz.w_popAt, Mz.w_cnt, Mz.w_comp, Mz.w_call, Mz.w_bix, Mz.w_bnil, Mz.w_bpop, Mz.w_dict0, Mz.w_dict1, Mz.wl_nil, Mz.wl_cons, Mz.wi_val, Mz.wi_rg1, Mz.wi_rg2, Mz.wi_enum, Mz.wi_zip, Mz.wi_rev, Mz.x_sqn, Mz.x_sqb, Mz.x_sqc, Mz.x_sqr, Mz.ws_nil, Mz.ws_skip, Mz.ws_brk, Mz.ws_cnt, Mz.ws_expr, Mz.ws_par, Mz.ws_set, Mz.ws_setIx, Mz.ws_bset, Mz.x_cot, Mz.x_cof, Mz.ws_cond, Mz.ws_loop, Mz.ws_ret, Mz.ws_ret0, Mz.wt_nm, Mz.wt_tup, Mz.wts_nil, Mz.wts_cons, Mz.x_enn, Mz.x_enr, Mz.x_fkn, Mz.x_fkc, Mz.x_fkb, Mz.x_fkr, Mz.frl_nx, Mz.frl_rt, Mz.x_ctt, Mz.x_ctf, Mz.KRu, Mz.KB, Mz.KEs2, Mz.KEs, Mz.KTup2, Mz.KTup, Mz.KLst2, Mz.KLst, Mz.KBin3, Mz.KBin2, Mz.KBin, Mz.KTm3, Mz.KTm2, Mz.KTm, Mz.KCmp3, Mz.KCmp2, Mz.KCmp, Mz.KCh4, Mz.KCh2b, Mz.KCh2, Mz.KCh, Mz.KIsc2, Mz.KIsc, Mz.KNot2, Mz.KNot, Mz.KNeg3, Mz.KNeg2, Mz.KNeg, Mz.KAnd, Mz.KOr, Mz.KIte, Mz.KIdx3, Mz.KIdx2, Mz.KIdx, Mz.KSl0, Mz.KSlc0, Mz.KSl1, Mz.KSlL3, Mz.KSlL2, Mz.KSlL, Mz.KSh1, Mz.KSlH3, Mz.KSlH2, Mz.KSlH, Mz.KSb5, Mz.KSb4, Mz.KSb3, Mz.KSb2, Mz.KSb1, Mz.KSlB2, Mz.KSlB, Mz.KBi2, Mz.KBi, Mz.KIsi2, Mz.KIsi, Mz.KLrg3, Mz.KLrg2, Mz.KLrg, Mz.KLrv3, Mz.KLrv2, Mz.KLrv, Mz.KLst5, Mz.KLst4, Mz.KLset2, Mz.KLset, Mz.KLdi5, Mz.KLdi4, Mz.KLdi2, Mz.KLdi, Mz.KApp3, Mz.KApp2, Mz.KApp1, Mz.KApp, Mz.KExt4, Mz.KExt3, Mz.KExt2, Mz.KExt1, Mz.KExt, Mz.KPop2, Mz.KPop, Mz.KPa6, Mz.KPa5, Mz.KPa4, Mz.KPa3, Mz.KPa2, Mz.KPa1, Mz.KPa, Mz.KCn6, Mz.KCn5, Mz.KCn4, Mz.KCn3, Mz.KCn2, Mz.KCn1, Mz.KCn0, Mz.KCn, Mz.KCa4, Mz.KCa3, Mz.KCa2, Mz.KCa, Mz.KAl2, Mz.KAl, Mz.KAd, Mz.KLc2, Mz.KLc, Mz.KBn, Mz.KBp, Mz.KRd, Mz.KRl2, Mz.KRl, Mz.KIv3, Mz.KIv2, Mz.KIv, Mz.KIr3, Mz.KIr2, Mz.KIr, Mz.KIq4, Mz.KIq3, Mz.KIq2, Mz.KIq, Mz.KIe3, Mz.KIe2, Mz.KIe, Mz.KIz4, Mz.KIz3, Mz.KIz2, Mz.KIz, Mz.KIw3, Mz.KIw2, Mz.KIw, Mz.KExp, Mz.KPar4, Mz.KPar3, Mz.KPar, Mz.KSet3, Mz.KSet, Mz.KIx6, Mz.KIx5, Mz.KIx4, Mz.KIx3, Mz.KIx2, Mz.KIx1, Mz.KIx0, Mz.KIx, Mz.KBs3, Mz.KBs2, Mz.KBs, Mz.KCo, Mz.KRt2, Mz.KRt, Mz.KTs, Mz.KFor, Mz.KCt3, Mz.KCt2, Mz.KCt0, Mz.KCt, Mz.KCoI2, Mz.KCoI, Mz.KCoP2, Mz.KCoP, Mz.KCoM2, Mz.KCoM, Mz.x_st0, Mz.x_std, Mz.x_stn, Mz.KEnu, Mz.x_qen, Mz.x_qer, Nat.reduceAdd, Nat.reduceSub, Nat.reduceLeDiff, eq_self, Nat.reduceMul, Nat.reduceEqDiff, $as,*])
  | `(tactic| simp_arith) => `(tactic| simp only [Mz.wR_some, Mz.wR_none, Mz.wR_map, Mz.ifc_false, Mz.wR_ifc, Mz.wR_ite, Mz.ownS_own, Mz.canS_some, Mz.setOk_no, Mz.setOk_val, Mz.setOk_own, Mz.quietB_no, Mz.quietB_val, Mz.isBg_bag, Mz.retL_val, Mz.retL_own, Mz.retL_lck, Mz.setOk_of_quiet, Mz.fzs_nil, Mz.fzs_cons, Mz.fzG_own, Mz.fzG_val, Mz.fzG_no, Mz.fzG_quiet, Mz.wipeR_nil, Mz.wipeR_cons, Mz.putBack_nil, Mz.putBack_cons, Mz.pbG_some, Mz.lockR_nil, Mz.lockR_cons, Mz.lkG_own, Mz.lkG_lck, Mz.lkG_val, Mz.freeR_nil, Mz.freeR_cons, Mz.frG_own, Mz.frG_lck, Mz.frG_val, Mz.rd_d, Mz.rd_nw, Mz.rd_loc, Mz.rdS_val, Mz.rdS_own, Mz.rdS_lck, Mz.rds_nil, Mz.rds_cons, Mz.retU_d, Mz.retU_nw, Mz.retU_loc, Mz.asB_bool, Mz.Ru_d, Mz.Ru_nw, Mz.lkOf_d, Mz.lkOf_nw, Mz.lkOf_loc, Mz.slot0_d, Mz.slot0_bag, Mz.init_G, Mz.intD_int, Mz.lstD_list, Mz.seqD_list, Mz.seqD_tuple, Mz.g_zero, Mz.g_succ, Mz.s_zero, Mz.s_succ, Mz.m_cons, Mz.m_nil, Mz.a_nil, Mz.a_cons, Mz.nil_a, Mz.o_some, Mz.o_none, Mz.o_map, Mz.o_mapn, Mz.l_cons, Mz.l_nil, Mz.r_zero, Mz.r_succ, Mz.i_t, Mz.i_f, Mz.i_T, Mz.i_F, Mz.d_T, Mz.d_F, Mz.d_eq, Mz.b_tt, Mz.b_ft, Mz.t_and, Mz.and_t, Mz.f_and, Mz.n_t, Mz.n_f, Mz.z_le, Mz.p_1, Mz.p_2, Mz.z_r, Mz.z_b, Mz.sizeLine_G, Mz.binS_add, Mz.binS_sub, Mz.binS_mul, Mz.binS_mod, Mz.binS_fdiv, Mz.binS_pow, Mz.addS_int, Mz.addS_list, Mz.addS_tuple, Mz.subS_int, Mz.mulS_int, Mz.mulS_list, Mz.modS_int, Mz.fdivS_int, Mz.powS_int, Mz.cmpS_eq, Mz.cmpS_ne, Mz.cmpS_lt, Mz.cmpS_le, Mz.cmpS_gt, Mz.cmpS_ge, Mz.cmpS_in, Mz.cmpS_ni, Mz.eqS_int, Mz.eqS_bool, Mz.eqS_str, Mz.eqS_nil, Mz.isi_int_int, Mz.isi_int_bool, Mz.isi_int_none, Mz.isi_int_str, Mz.isi_int_list, Mz.isi_int_tuple, Mz.isi_int_dict, Mz.isi_bool_int, Mz.isi_bool_bool, Mz.isi_bool_none, Mz.isi_bool_str, Mz.isi_bool_list, Mz.isi_bool_tuple, Mz.isi_bool_dict, Mz.isi_str_int, Mz.isi_str_bool, Mz.isi_str_none, Mz.isi_str_str, Mz.isi_str_list, Mz.isi_str_tuple, Mz.isi_str_dict, Mz.isi_tuple_int, Mz.isi_tuple_bool, Mz.isi_tuple_none, Mz.isi_tuple_str, Mz.isi_tuple_list, Mz.isi_tuple_tuple, Mz.isi_tuple_dict, Mz.isC_nn, Mz.isC_ni, Mz.isC_nb, Mz.isC_ns, Mz.isC_nl, Mz.isC_nt, Mz.isC_nd, Mz.isC_bb, Mz.isC_bi, Mz.isC_bn, Mz.isC_bs, Mz.isC_bl, Mz.isC_bt, Mz.isC_bd, Mz.idxS_list, Mz.idxS_tuple, Mz.slcS_list, Mz.slcS_tuple, Mz.bis_len, Mz.bis_list, Mz.bis_tuple, Mz.bis_sum, Mz.bis_max, Mz.bis_min, Mz.bis_sorted, Mz.bis_all, Mz.bis_any, Mz.bis_abs, Mz.bis_int, Mz.bis_str, Mz.bis_repr, Mz.lenS_list, Mz.lenS_tuple, Mz.listS_list, Mz.listS_tuple, Mz.tupleS_list, Mz.tupleS_tuple, Mz.sumS_list, Mz.sortS_list, Mz.allS_list, Mz.anyS_list, Mz.mmS_ii, Mz.intS_int, Mz.absS_int, Mz.strS_int, Mz.reprS_G, Mz.x_cht, Mz.x_chf, Mz.x_andt, Mz.x_andf, Mz.x_ort, Mz.x_orf, Mz.x_itt, Mz.x_itf, Mz.w2, Mz.varK_val, Mz.varK_own, Mz.varK_lck, Mz.varK_bag, Mz.escK_val, Mz.escK_own, Mz.wEc_d, Mz.wEc_nw, Mz.wEc_loc, Mz.wEs_nil, Mz.wEs_cons, Mz.wA_nil, Mz.wA_cons, Mz.wAu_bag, Mz.wAu_d, Mz.wAu_nw, Mz.wAu_loc, Mz.wRs_d, Mz.wRs_nw, Mz.wRs_loc, Mz.wRL_nil, Mz.wRL_cons, Mz.w_var, Mz.w_glob, Mz.w_cst, Mz.ifc_dec, Mz.w_tup, Mz.w_lst, Mz.w_bin, Mz.w_cmp, Mz.w_tmul, Mz.w_chain, Mz.w_isc, Mz.w_not, Mz.w_neg, Mz.w_and1, Mz.w_and2, Mz.w_or1, Mz.w_or2, Mz.w_ite, Mz.w_idx, Mz.w_slc0, Mz.w_slcL, Mz.w_slcH, Mz.w_slcLH, Mz.w_bi, Mz.w_isi, Mz.w_lrg1, Mz.w_lrev, Mz.w_lset, Mz.w_ldict, Mz.w_app, Mz.w_ext, Mz.w_pop, Mz.w_popAt, Mz.w_cnt, Mz.w_comp, Mz.w_call, Mz.w_bix, Mz.w_bnil, Mz.w_bpop, Mz.w_dict0, Mz.w_dict1, Mz.wl_nil, Mz.wl_cons, Mz.wi_val, Mz.wi_rg1, Mz.wi_rg2, Mz.wi_enum, Mz.wi_zip, Mz.wi_rev, Mz.x_sqn, Mz.x_sqb, Mz.x_sqc, Mz.x_sqr, Mz.ws_nil, Mz.ws_cons, Mz.ws_skip, Mz.ws_brk, Mz.ws_cnt, Mz.ws_expr, Mz.ws_par, Mz.ws_set, Mz.ws_setIx, Mz.ws_bset, Mz.x_cot, Mz.x_cof, Mz.ws_cond, Mz.ws_loop, Mz.ws_ret, Mz.ws_ret0, Mz.wt_nm, Mz.wt_tup, Mz.wts_nil, Mz.wts_cons, Mz.x_enn, Mz.x_enr, Mz.x_fkn, Mz.x_fkc, Mz.x_fkb, Mz.x_fkr, Mz.frl_nx, Mz.frl_rt, Mz.x_ctt, Mz.x_ctf, Mz.KRu, Mz.KB, Mz.KEs2, Mz.KEs, Mz.KTup2, Mz.KTup, Mz.KLst2, Mz.KLst, Mz.KBin3, Mz.KBin2, Mz.KBin, Mz.KTm3, Mz.KTm2, Mz.KTm, Mz.KCmp3, Mz.KCmp2, Mz.KCmp, Mz.KCh4, Mz.KCh2b, Mz.KCh2, Mz.KCh, Mz.KIsc2, Mz.KIsc, Mz.KNot2, Mz.KNot, Mz.KNeg3, Mz.KNeg2, Mz.KNeg, Mz.KAnd, Mz.KOr, Mz.KIte, Mz.KIdx3, Mz.KIdx2, Mz.KIdx, Mz.KSl0, Mz.KSlc0, Mz.KSl1, Mz.KSlL3, Mz.KSlL2, Mz.KSlL, Mz.KSh1, Mz.KSlH3, Mz.KSlH2, Mz.KSlH, Mz.KSb5, Mz.KSb4, Mz.KSb3, Mz.KSb2, Mz.KSb1, Mz.KSlB2, Mz.KSlB, Mz.KBi2, Mz.KBi, Mz.KIsi2, Mz.KIsi, Mz.KLrg3, Mz.KLrg2, Mz.KLrg, Mz.KLrv3, Mz.KLrv2, Mz.KLrv, Mz.KLst5, Mz.KLst4, Mz.KLset2, Mz.KLset, Mz.KLdi5, Mz.KLdi4, Mz.KLdi2, Mz.KLdi, Mz.KApp3, Mz.KApp2, Mz.KApp1, Mz.KApp, Mz.KExt4, Mz.KExt3, Mz.KExt2, Mz.KExt1, Mz.KExt, Mz.KPop2, Mz.KPop, Mz.KPa6, Mz.KPa5, Mz.KPa4, Mz.KPa3, Mz.KPa2, Mz.KPa1, Mz.KPa, Mz.KCn6, Mz.KCn5, Mz.KCn4, Mz.KCn3, Mz.KCn2, Mz.KCn1, Mz.KCn0, Mz.KCn, Mz.KCa4, Mz.KCa3, Mz.KCa2, Mz.KCa, Mz.KAl2, Mz.KAl, Mz.KAd, Mz.KLc2, Mz.KLc, Mz.KBn, Mz.KBp, Mz.KRd, Mz.KRl2, Mz.KRl, Mz.KIv3, Mz.KIv2, Mz.KIv, Mz.KIr3, Mz.KIr2, Mz.KIr, Mz.KIq4, Mz.KIq3, Mz.KIq2, Mz.KIq, Mz.KIe3, Mz.KIe2, Mz.KIe, Mz.KIz4, Mz.KIz3, Mz.KIz2, Mz.KIz, Mz.KIw3, Mz.KIw2, Mz.KIw, Mz.KExp, Mz.KPar4, Mz.KPar3, Mz.KPar, Mz.KSet3, Mz.KSet, Mz.KIx6, Mz.KIx5, Mz.KIx4, Mz.KIx3, Mz.KIx2, Mz.KIx1, Mz.KIx0, Mz.KIx, Mz.KBs3, Mz.KBs2, Mz.KBs, Mz.KCo, Mz.KRt2, Mz.KRt, Mz.KTs, Mz.KFor, Mz.KCt3, Mz.KCt2, Mz.KCt0, Mz.KCt, Mz.KCoI2, Mz.KCoI, Mz.KCoP2, Mz.KCoP, Mz.KCoM2, Mz.KCoM, Mz.x_st0, Mz.x_std, Mz.x_stn, Mz.KEnu, Mz.x_qen, Mz.x_qer, Nat.reduceAdd, Nat.reduceSub, Nat.reduceLeDiff, eq_self, Nat.reduceMul, Nat.reduceEqDiff])

namespace k83_whole_forests_towers
open PySem PySem.Spec L2 Mz
def tab : List Df := tabS.map (·.1)
theorem f_is_integer : tab.find? (fun d => decide (d.nm = ("is_integer" : Str))) = some d_is_integer := by rfl
theorem f_is_whole : tab.find? (fun d => decide (d.nm = ("is_whole" : Str))) = some d_is_whole := by rfl
theorem f_is_tuple : tab.find? (fun d => decide (d.nm = ("is_tuple" : Str))) = some d_is_tuple := by rfl
theorem f_are_places : tab.find? (fun d => decide (d.nm = ("are_places" : Str))) = some d_are_places := by rfl
theorem f_power_of : tab.find? (fun d => decide (d.nm = ("power_of" : Str))) = some d_power_of := by rfl
theorem f_ties_error : tab.find? (fun d => decide (d.nm = ("ties_error" : Str))) = some d_ties_error := by rfl
theorem f_is_forest : tab.find? (fun d => decide (d.nm = ("is_forest" : Str))) = some d_is_forest := by rfl
theorem f_least_colours : tab.find? (fun d => decide (d.nm = ("least_colours" : Str))) = some d_least_colours := by rfl
theorem f_colours_error : tab.find? (fun d => decide (d.nm = ("colours_error" : Str))) = some d_colours_error := by rfl
theorem f_two_colours : tab.find? (fun d => decide (d.nm = ("two_colours" : Str))) = some d_two_colours := by rfl
theorem f_colour_tower : tab.find? (fun d => decide (d.nm = ("colour_tower" : Str))) = some d_colour_tower := by rfl
theorem f_fewest_knots : tab.find? (fun d => decide (d.nm = ("fewest_knots" : Str))) = some d_fewest_knots := by rfl
theorem f__law_draw : tab.find? (fun d => decide (d.nm = ("_law_draw" : Str))) = some d__law_draw := by rfl
theorem f__law_pick : tab.find? (fun d => decide (d.nm = ("_law_pick" : Str))) = some d__law_pick := by rfl
theorem f__law_int : tab.find? (fun d => decide (d.nm = ("_law_int" : Str))) = some d__law_int := by rfl
theorem f__law_same : tab.find? (fun d => decide (d.nm = ("_law_same" : Str))) = some d__law_same := by rfl
theorem f__law_odd : tab.find? (fun d => decide (d.nm = ("_law_odd" : Str))) = some d__law_odd := by rfl
theorem f__law_other : tab.find? (fun d => decide (d.nm = ("_law_other" : Str))) = some d__law_other := by rfl
theorem f__law_bools : tab.find? (fun d => decide (d.nm = ("_law_bools" : Str))) = some d__law_bools := by rfl
theorem f__law_due_ties : tab.find? (fun d => decide (d.nm = ("_law_due_ties" : Str))) = some d__law_due_ties := by rfl
theorem f__law_due_colours : tab.find? (fun d => decide (d.nm = ("_law_due_colours" : Str))) = some d__law_due_colours := by rfl
theorem f__law_judged : tab.find? (fun d => decide (d.nm = ("_law_judged" : Str))) = some d__law_judged := by rfl
theorem f__law_forest : tab.find? (fun d => decide (d.nm = ("_law_forest" : Str))) = some d__law_forest := by rfl
theorem f__law_tower : tab.find? (fun d => decide (d.nm = ("_law_tower" : Str))) = some d__law_tower := by rfl
theorem f__law_coming : tab.find? (fun d => decide (d.nm = ("_law_coming" : Str))) = some d__law_coming := by rfl
theorem f__law_ring : tab.find? (fun d => decide (d.nm = ("_law_ring" : Str))) = some d__law_ring := by rfl
theorem f__law_thick : tab.find? (fun d => decide (d.nm = ("_law_thick" : Str))) = some d__law_thick := by rfl
theorem f__law_ties : tab.find? (fun d => decide (d.nm = ("_law_ties" : Str))) = some d__law_ties := by rfl
theorem f__law_facts : tab.find? (fun d => decide (d.nm = ("_law_facts" : Str))) = some d__law_facts := by rfl
theorem f__law_odd_ring : tab.find? (fun d => decide (d.nm = ("_law_odd_ring" : Str))) = some d__law_odd_ring := by rfl
theorem f__law_is_full : tab.find? (fun d => decide (d.nm = ("_law_is_full" : Str))) = some d__law_is_full := by rfl
theorem f__law_read : tab.find? (fun d => decide (d.nm = ("_law_read" : Str))) = some d__law_read := by rfl
theorem f__law_spoils : tab.find? (fun d => decide (d.nm = ("_law_spoils" : Str))) = some d__law_spoils := by rfl
end k83_whole_forests_towers

namespace k83_whole_forests_towers
open PySem PySem.Spec L2 Mz
def isInt : PyData → Bool
  | .int _ => true
  | _ => false
theorem r_is_integer (n : Nat) (v : PyData) (b : Bg) : run tab (n + 1) "is_integer" [.d v] b = some (.d (.bool (isInt v)), b) := by
  refine wR_eq ?_
  rw [wRun f_is_integer]
  cases v <;> simp_arith [d_is_integer, isInt]
def inR (v : PyData) (lo hi : Int) : Bool := match v with
  | .int i => decide (lo ≤ i) && decide (i ≤ hi)
  | _ => false
theorem r_is_whole (n : Nat) (v : PyData) (lo hi : Int) (b : Bg) : run tab (n + 2) "is_whole" [.d v, .d (.int lo), .d (.int hi)] b = some (.d (.bool (inR v lo hi)), b) := by
  refine wR_eq ?_
  rw [wRun f_is_whole]
  simp_arith [d_is_whole, r_is_integer]
  cases v <;> simp_arith [isInt, inR]
  refine brd (fun h => ?_) fun h => ?_ <;> simp_arith [h, Bool.true_and, Bool.false_and]
def tD (r : List Nat) : PyData := .tuple (r.map nD)
theorem r_least_colours (n : Nat) (ts : Mx.Ties) (hv : Mx.Vd ts) (hl : ts.length ≤ 64) (b : Bg) : run tab (n + 1) "least_colours" [.d (.tuple (ts.map tD))] b = some (.d (.tuple ((Mx.leastC ts).map nD)), b) := by
  refine wR_eq ?_
  rw [wRun f_least_colours]
  simp_arith [d_least_colours]
  refine wS_for ts tD (fun done z => ∃ s1 s2 s3 s4, z = ⟨[.val (.tuple (ts.map tD)), .own ((Mx.leastC done).map nD), s1, s2, s3, s4], b⟩ ∧ setOk s1 = true ∧ setOk s2 = true ∧ quietB s3 = true ∧ quietB s4 = true) ?_
  simp_arith
  refine ⟨⟨_, _, _, _, rfl, rfl, rfl, rfl, rfl⟩, ?_, ?_⟩
  · rintro done x rest zc hx ⟨s1, s2, s3, s4, rfl, h1, h2, h3, h4⟩
    simp_arith [tD, h1, h2, h3, h4]
    have hr : Mx.RowOk done.length x := hv done x rest hx
    have hxl : x.length ≤ 64 := by have := Mx.RowOk.len hr; have := congrArg List.length hx; simp at this; omega
    have hll := Mx.leastC_len done
    have hdl : done.length < 64 := by have := congrArg List.length hx; simp at this; omega
    refine wE_map x nD (fun j => nD ((Mx.leastC done).getD j 0)) ?_
    simp_arith [h1, h2, h3, h4]
    refine ⟨by omega, ?_, ?_⟩
    · intro j hj
      have := hr.2 j hj
      simp_arith [nD_eq, at_map 0 (show j < (Mx.leastC done).length by omega)]
    · have e : x.map (fun j => nD ((Mx.leastC done).getD j 0)) = (Mx.gJ (Mx.leastC done) x).map nD := by simp [Mx.gJ]
      obtain ⟨_, _, _, rest', hm⟩ := Mx.mexL_spec (near := Mx.gJ (Mx.leastC done) x) (m := x.length + 1) (by simp [Mx.gJ])
      have hp : (Mx.mexL (Mx.gJ (Mx.leastC done) x) (x.length + 1) :: rest').Pairwise (· < ·) := by rw [← hm]; exact List.pairwise_lt_range.filter _
      rw [e]
      refine wE_comp (List.range (x.length + 1)) nD (fun k => decide (k ∉ Mx.gJ (Mx.leastC done) x)) nD ?_
      simp_arith [h1, h2, h3, h4, List.length_map, rg1_nat (n := x.length), okI_in (i := (x.length : Int) + 1) (by omega) (by omega), List.length_range]
      refine ⟨by omega, ?_, ?_⟩
      · intro k hk
        simp_arith [nD_eq, in_nats]
        by_cases hk : k ∈ Mx.gJ (Mx.leastC done) x
        · simp_arith [hk, decide_true, decide_false, not_true]
        · simp_arith [hk, decide_true, decide_false, not_false_eq_true]
      · simp_arith [hm, mms_min hp, List.length_map, Mx.leastC_snoc, Mx.leastRow, List.map_append]
        exact ⟨by omega, _, _, _, _, rfl, rfl, rfl, h3, h4⟩
  · rintro ze ⟨s1, s2, s3, s4, rfl, h1, h2, h3, h4⟩
    simp_arith
end k83_whole_forests_towers

namespace k83_whole_forests_towers
open PySem PySem.Spec L2 Mz
def tupN (v : PyData) (k : Nat) : Bool := match v with
  | .tuple ds => decide (ds.length = k)
  | _ => false
theorem r_is_tuple (n : Nat) (v : PyData) (k : Nat) (b : Bg) : run tab (n + 1) "is_tuple" [.d v, .d (.int k)] b = some (.d (.bool (tupN v k)), b) := by
  refine wR_eq ?_
  rw [wRun f_is_tuple]
  cases v <;> simp_arith [d_is_tuple, tupN]
  rename_i ds
  rw [show decide ((ds.length : Int) = (k : Int)) = decide (ds.length = k) from decide_eq_decide.mpr (by omega)]
def isTup : PyData → Bool
  | .tuple _ => true
  | _ => false
def toI : PyData → Int
  | .int k => k
  | _ => 0
theorem toI_map : ∀ {ds : List PyData}, (∀ d ∈ ds, isInt d = true) → ds = (ds.map toI).map PyData.int
  | [], _ => rfl
  | d :: ds, h => by
    rw [List.map_cons, List.map_cons, ← toI_map fun x hx => h x (List.mem_cons_of_mem _ hx)]
    have := h d List.mem_cons_self
    cases d <;> first | rfl | cases this
theorem inR_int {v : PyData} {lo hi : Int} (h : inR v lo hi = true) : isInt v = true := by cases v <;> first | rfl | cases h
def incr (ns : List Int) : Bool := (ns.zip ns.tail).all fun p => decide (p.1 < p.2)
theorem zip_init (ns : List Int) : ns.dropLast.zip ns.tail = ns.zip ns.tail := by
  cases ns with
  | nil => rfl
  | cons a r =>
    induction r generalizing a with
    | nil => rfl
    | cons c r ih =>
      have := ih c
      simp only [List.dropLast_cons₂, List.tail_cons, List.zip_cons_cons] at this ⊢
      rw [← this]
def plOk (v : PyData) (i : Nat) : Bool := match v with
  | .tuple ds => (ds.all fun d => inR d 0 ((i : Int) - 1)) && incr (ds.map toI)
  | _ => false
theorem all_id {α : Type} (f : α → Bool) (l : List α) : (l.map f).all id = l.all f := by rw [List.all_map]; rfl
theorem r_are_places (n : Nat) (v : PyData) (i : Nat) (b : Bg) (hv : ∀ ds, v = .tuple ds → ds.length ≤ 16777216) : run tab (n + 3) "are_places" [.d v, .d (.int i)] b = some (.d (.bool (plOk v i)), b) := by
  refine wR_eq ?_
  rw [wRun f_are_places]
  cases v <;> simp_arith [d_are_places, plOk]
  rename_i ds
  have hl := hv ds rfl
  refine wE_map ds id (fun d => .bool (inR d 0 ((i : Int) - 1))) ?_
  simp_arith [List.map_id]
  refine ⟨hl, ?_, ?_⟩
  · intro x hx
    simp_arith [r_is_whole, id]
  · simp_arith [bls_f, all_id]
    cases h : ds.all fun d => inR d 0 ((i : Int) - 1)
    · simp_arith [Bool.false_and]
    · simp_arith [Bool.true_and]
      have hi : ∀ d ∈ ds, isInt d = true := fun d hd => inR_int (List.all_eq_true.mp h d hd)
      have e := toI_map hi
      generalize ds.map toI = ns at *
      subst e
      refine wE_map (ns.dropLast.zip ns.tail) (fun p => .tuple [.int p.1, .int p.2]) (fun p => .bool (decide (p.1 < p.2))) ?_
      simp_arith [cut_init, cut_one, map_dropLast', map_drop', zip_map, bls_f, all_id]
      rw [List.length_map] at hl
      rw [← List.drop_one]
      refine ⟨rfl, by rw [List.length_zip, List.length_dropLast, List.length_drop]; omega, ?_, ?_⟩
      · intro x hx
        simp_arith
      · rw [List.drop_one, zip_init]; rfl
def gdT (v : PyData) : Prop := (∀ rows, v = .tuple rows → rows.length ≤ 16777216) ∧ ∀ rows, v = .tuple rows → ∀ ds, .tuple ds ∈ rows → ds.length ≤ 16777216
def tieErr (v : PyData) : PyData := match v with
  | .tuple rows => if rows.length ≤ 64 ∧ rows.all isTup = true then (match rows.zipIdx.find? fun p => !plOk p.1 p.2 with
    | some p => .tuple [.str "knot", nD p.2]
    | none => .none) else .str "form"
  | _ => .str "form"
theorem find_hit {α : Type} {p : α → Bool} {l r : List α} {x : α} (h : ∀ y ∈ l, p y = false) (k : p x = true) : (l ++ x :: r).find? p = some x := by
  rw [List.find?_append, List.find?_eq_none.mpr (fun y hy => by simp [h y hy]), List.find?_cons, k]; rfl
theorem find_miss {α : Type} {p : α → Bool} {l : List α} (h : ∀ y ∈ l, p y = false) : l.find? p = none := List.find?_eq_none.mpr fun y hy => by simp [h y hy]
theorem r_ties_error (n : Nat) (v : PyData) (b : Bg) (hv : gdT v) : run tab (n + 4) "ties_error" [.d v] b = some (.d (tieErr v), b) := by
  refine wR_eq ?_
  rw [wRun f_ties_error]
  simp_arith [d_ties_error]
  cases v <;> simp_arith [tieErr]
  rename_i rows
  have hl := hv.1 rows rfl
  refine brd (fun h => ?_) fun h => ?_
  · simp_arith [show ¬ rows.length ≤ 64 by omega]
  · simp_arith
    refine wE_map rows id (fun d => .bool (isTup d)) ?_
    simp_arith [List.map_id]
    refine ⟨hl, ?_, ?_⟩
    · intro x hx
      cases x <;> simp_arith [id, isTup]
    · simp_arith [bls_f, all_id]
      cases ha : rows.all isTup
      · simp_arith [and_false]
      · simp_arith [show rows.length ≤ 64 by omega]
        refine wS_for rows.zipIdx (fun p => .tuple [nD p.2, p.1]) (fun done z => (∀ p ∈ done, plOk p.1 p.2 = true) ∧ ∃ s1 s2, z = ⟨[.val (.tuple rows), s1, s2], b⟩ ∧ setOk s1 = true ∧ setOk s2 = true) ?_
        simp_arith
        refine ⟨rfl, ⟨by simp, _, _, rfl, rfl, rfl⟩, ?_, ?_⟩
        · rintro done x rest zc hx ⟨hd, s1, s2, rfl, h1, h2⟩
          have hpl : run tab (n + 3) "are_places" [.d x.1, .d (nD x.2)] b = some (.d (.bool (plOk x.1 x.2)), b) := r_are_places n x.1 x.2 b fun ds e => by
            have hm : x ∈ rows.zipIdx := by rw [hx]; simp
            have := List.fst_mem_of_mem_zipIdx hm
            exact hv.2 rows rfl ds (e ▸ this)
          simp_arith [h1, h2, hpl]
          cases hp : plOk x.1 x.2
          · simp_arith
            rw [hx, find_hit (by intro y hy; simp [hd y hy]) (by simp [hp])]
          · simp_arith
            refine ⟨?_, _, _, rfl, rfl, rfl⟩
            intro p hp'
            rcases List.mem_append.mp hp' with q | q
            · exact hd p q
            · simp at q; rw [q]; exact hp
        · rintro ze ⟨hd, s1, s2, rfl, h1, h2⟩
          simp_arith
          rw [find_miss (by intro y hy; simp [hd y hy])]
def colErr (ts : Mx.Ties) (cs : List Int) : PyData := match ts.zipIdx.find? (fun p => (p.1.find? fun j => decide (cs.getD p.2 0 = cs.getD j 0)).isSome) with
  | some p => .tuple [.str "tie", nD p.2, nD ((p.1.find? fun j => decide (cs.getD p.2 0 = cs.getD j 0)).getD 0)]
  | none => .none
def nn (v : PyData) : Bool := match v with
  | .int k => decide (0 ≤ k)
  | _ => false
def colD (ts : Mx.Ties) (v : PyData) : PyData := match v with
  | .tuple ds => if ds.length = ts.length ∧ ds.all nn = true then colErr ts (ds.map toI) else .str "form"
  | _ => .str "form"
theorem nn_int {v : PyData} (h : nn v = true) : isInt v = true := by cases v <;> first | rfl | cases h
theorem zipIdx_at {α : Type} {done rest : List (α × Nat)} {l : List α} {x : α × Nat} (e : l.zipIdx = done ++ x :: rest) : x.2 = done.length ∧ l[done.length]? = some x.1 := by
  have h : l.zipIdx[done.length]? = some x := by rw [e]; simp
  rw [List.getElem?_zipIdx] at h
  obtain ⟨y, h1, h2⟩ := Option.map_eq_some_iff.mp h
  subst h2
  exact ⟨by simp, h1⟩
theorem r_colours_error (n : Nat) (ts : Mx.Ties) (hts : Mx.Vd ts) (hn : ts.length ≤ 64) (v : PyData) (b : Bg) (hv : gdT v) : run tab (n + 2) "colours_error" [.d (.tuple (ts.map tD)), .d v] b = some (.d (colD ts v), b) := by
  refine wR_eq ?_
  rw [wRun f_colours_error]
  simp_arith [d_colours_error, r_is_tuple, List.length_map]
  cases v <;> simp_arith [tupN, colD]
  rename_i ds
  by_cases h : ds.length = ts.length
  · simp_arith [h, decide_true]
    refine wE_map ds id (fun d => .bool (nn d)) ?_
    simp_arith [List.map_id]
    refine ⟨by omega, ?_, ?_⟩
    · intro x hx
      simp_arith [id, r_is_integer]
      cases x <;> simp_arith [isInt, nn]
    · simp_arith [bls_f, all_id]
      cases ha : ds.all nn
      · simp_arith [and_false]
      · simp_arith [h]
        have hi : ∀ d ∈ ds, isInt d = true := fun d hd => nn_int (List.all_eq_true.mp ha d hd)
        have e := toI_map hi
        generalize ds.map toI = cs at *
        subst e
        rw [List.length_map] at h
        refine wS_for ts.zipIdx (fun p => .tuple [nD p.2, tD p.1]) (fun done z => (∀ p ∈ done, p.1.find? (fun j => decide (cs.getD p.2 0 = cs.getD j 0)) = none) ∧ ∃ s1 s2 s3 s4, z = ⟨[.val (.tuple (ts.map tD)), .val (.tuple (cs.map PyData.int)), s1, s2, s3, s4], b⟩ ∧ setOk s1 = true ∧ setOk s2 = true ∧ setOk s3 = true ∧ setOk s4 = true) ?_
        simp_arith [enum_map]
        refine ⟨⟨by simp, _, _, _, _, rfl, rfl, rfl, rfl, rfl⟩, ?_, ?_⟩
        · rintro done x rest zc hx ⟨hd, s1, s2, s3, s4, rfl, h1, h2, h3, h4⟩
          obtain ⟨hx2, hx1⟩ := zipIdx_at hx
          obtain ⟨hlt, hxe⟩ := List.getElem?_eq_some_iff.mp hx1
          have hro : Mx.RowOk done.length x.1 := by
            have := hts (ts.take done.length) x.1 (ts.drop (done.length + 1)) (by rw [← hxe, List.getElem_cons_drop, List.take_append_drop])
            rwa [List.length_take, Nat.min_eq_left (by omega)] at this
          simp_arith [h1, h2, h3, h4, tD]
          refine wS_for x.1 nD (fun dn z => (∀ j ∈ dn, (decide (cs.getD x.2 0 = cs.getD j 0)) = false) ∧ ∃ s3 s4, z = ⟨[.val (.tuple (ts.map tD)), .val (.tuple (cs.map PyData.int)), .val (nD x.2), .val (.tuple (x.1.map nD)), s3, s4], b⟩ ∧ setOk s3 = true ∧ setOk s4 = true) ?_
          simp_arith
          refine ⟨⟨by simp, _, _, rfl, h3, h4⟩, ?_, ?_⟩
          · rintro dn j rs zc hj ⟨hdn, s3, s4, rfl, h3, h4⟩
            have hjm : j ∈ x.1 := by rw [hj]; simp
            have := hro.2 j hjm
            simp_arith [h1, h2, h3, h4, nD_eq, at_map (0 : Int) (show x.2 < cs.length by omega), at_map (0 : Int) (show j < cs.length by omega)]
            refine brd (fun q => ?_) fun q => ?_
            · simp_arith
              rw [colErr, hx, find_hit (by intro y hy; rw [hd y hy]; rfl) (by rw [hj, find_hit hdn (by simpa using q)]; rfl)]
              show _ = (R.d (.tuple [.str "tie", nD x.2, nD ((x.1.find? fun j => decide (cs.getD x.2 0 = cs.getD j 0)).getD 0)]), b)
              rw [hj, find_hit hdn (by simpa using q)]; rfl
            · simp_arith
              refine ⟨?_, _, _, rfl, rfl, h4⟩
              intro p hp'
              rcases List.mem_append.mp hp' with r | r
              · exact hdn p r
              · simp at r; rw [r]; simpa using q
          · rintro ze ⟨hdn, s3, s4, rfl, h3, h4⟩
            simp_arith
            refine ⟨?_, _, _, _, _, rfl, rfl, rfl, h3, h4⟩
            intro p hp'
            rcases List.mem_append.mp hp' with r | r
            · exact hd p r
            · simp at r; rw [r]; exact find_miss hdn
        · rintro ze ⟨hd, s1, s2, s3, s4, rfl, h1, h2, h3, h4⟩
          simp_arith [colErr]
          rw [find_miss (by intro y hy; rw [hd y hy]; rfl)]
  · simp_arith [h, false_and, decide_false]
end k83_whole_forests_towers

namespace k83_whole_forests_towers
open PySem PySem.Spec L2 Mz
theorem r_power_of (n : Nat) (k : Nat) (hk : k ≤ 6) (b : Bg) : run tab (n + 1) "power_of" [.d (.int 2), .d (.int (k : Nat))] b = some (.d (.int (2 ^ k)), b) := by
  refine wR_eq ?_
  rw [wRun f_power_of]
  simp_arith [d_power_of]
  refine wS_for (List.range k) nD (fun done z => ∃ s1, z = ⟨[.val (.int 2), .val (.int (k : Nat)), .val (.int (2 ^ done.length)), s1], b⟩ ∧ setOk s1 = true) ?_
  simp_arith [okI_nat (show k ≤ 1000000 by omega), rg_nat]
  refine ⟨⟨_, rfl, rfl⟩, ?_, ?_⟩
  · rintro done x rest zc hx ⟨s1, rfl, h1⟩
    have hlt : done.length < (List.range k).length := by rw [hx]; simp
    rw [List.length_range] at hlt
    simp_arith [h1, List.length_append, ifc_dec]
    refine ⟨?_, _, rfl, rfl⟩
    have : done.length = 0 ∨ done.length = 1 ∨ done.length = 2 ∨ done.length = 3 ∨ done.length = 4 ∨ done.length = 5 := by omega
    rcases this with h | h | h | h | h | h <;> rw [h] <;> decide
  · rintro ze ⟨s1, rfl, h1⟩
    simp_arith [List.length_range]
theorem r_fewest_knots (n : Nat) (k : Nat) (hk : k ≤ 6) (b : Bg) : run tab (n + 2) "fewest_knots" [.d (.int (k : Nat))] b = some (.d (.int (2 ^ k)), b) := by
  refine wR_eq ?_
  rw [wRun f_fewest_knots]
  simp_arith [d_fewest_knots, r_power_of n k hk]
def shift (m : Nat) (ts : Mx.Ties) : Mx.Ties := ts.map fun r => r.map (· + m)
def towF : Nat → Mx.Ties
  | 0 => [[]]
  | c + 1 => (towF c).dropLast ++ shift (2 ^ c - 1) (towF c) ++ [(List.range (c + 1)).map fun k => 2 ^ (k + 1) - 2]
theorem r_colour_tower (n : Nat) (c : Nat) (hc : c ≤ 6) (b : Bg) : run tab (n + 7) "colour_tower" [.d (.int (c : Nat))] b = some (.d (.tuple ((towF c).map tD)), b) := by
  have : c = 0 ∨ c = 1 ∨ c = 2 ∨ c = 3 ∨ c = 4 ∨ c = 5 ∨ c = 6 := by omega
  rcases this with h | h | h | h | h | h | h <;> subst h <;> kernel_rfl
theorem r_law_tower (n : Nat) (c : Nat) (hc : c ≤ 6) (b : Bg) : run tab (n + 7) "_law_tower" [.d (.int (c : Nat))] b = some (.nw ((towF c).map tD), b) := by
  have : c = 0 ∨ c = 1 ∨ c = 2 ∨ c = 3 ∨ c = 4 ∨ c = 5 ∨ c = 6 := by omega
  rcases this with h | h | h | h | h | h | h <;> subst h <;> kernel_rfl
end k83_whole_forests_towers

namespace k83_whole_forests_towers
open PySem PySem.Spec L2 Mz
theorem met_eq (p row : List Nat) : (row.map fun j => nD (p.getD j 0)) = (Mx.gJ p row).map nD := by simp [Mx.gJ]
theorem part_eq (done : Mx.Ties) (x : List Nat) : (Mx.partC done).map (fun q => nD (if q ∈ Mx.gJ (Mx.partC done) x then done.length else q)) ++ [nD done.length] = (Mx.partC (done ++ [x])).map nD := by
  rw [Mx.partC_snoc, Mx.pStep, Mx.partC_len]
  simp [Function.comp_def]
theorem two_eq (done : Mx.Ties) (x : List Nat) : ((Mx.twoC done).zip (Mx.partC done)).map (fun q => PyData.int (if q.2 ∈ (x.filter fun j => decide ((Mx.twoC done).getD j 0 = 0)).map (fun j => (Mx.partC done).getD j 0) then 1 - q.1 else q.1)) ++ [PyData.int 0] = (Mx.twoC (done ++ [x])).map PyData.int := by
  rw [Mx.twoC_snoc, Mx.tStep]
  simp [Function.comp_def]
theorem r_is_forest (n : Nat) (ts : Mx.Ties) (hv : Mx.Vd ts) (hl : ts.length ≤ 64) (b : Bg) (p : Bool) (hp : p = true ↔ Mx.Fo ts) : run tab (n + 1) "is_forest" [.d (.tuple (ts.map tD))] b = some (.d (.bool p), b) := by
  refine wR_eq ?_
  rw [wRun f_is_forest]
  simp_arith [d_is_forest]
  refine wS_enum ts tD (fun done z => Mx.Fo done ∧ ∃ s1 s2 s3 s4 s5, z = ⟨[.val (.tuple (ts.map tD)), .own ((Mx.partC done).map nD), s1, s2, s3, s4, s5], b⟩ ∧ setOk s1 = true ∧ setOk s2 = true ∧ setOk s3 = true ∧ quietB s4 = true ∧ quietB s5 = true) ?_
  simp_arith
  refine ⟨⟨Mx.Fo.nil, _, _, _, _, _, rfl, rfl, rfl, rfl, rfl, rfl⟩, ?_, ?_⟩
  · rintro done x rest zc hx ⟨hf, s1, s2, s3, s4, s5, rfl, h1, h2, h3, h4, h5⟩
    have hlt := lens hx
    have hr : Mx.RowOk done.length x := hv done x rest hx
    have hxl := hr.len
    have hpl := Mx.partC_len done
    simp_arith [h1, h2, h3, h4, h5, tD]
    refine wE_map x nD (fun j => nD ((Mx.partC done).getD j 0)) ?_
    simp_arith [h1, h2, h3, h4, h5]
    refine ⟨by omega, ?_, ?_⟩
    · intro j hj
      have := hr.2 j hj
      simp_arith [nD_eq, at_map 0 (show j < (Mx.partC done).length by omega)]
    · rw [met_eq]
      have hml : (Mx.gJ (Mx.partC done) x).length = x.length := by simp [Mx.gJ]
      refine wE_map (Mx.gJ (Mx.partC done) x) nD (fun q => .tuple [.int (q : Int), .bool true]) ?_
      simp_arith [h1, h2, h3, h4, h5]
      refine ⟨by omega, ?_, ?_⟩
      · intro j hj
        simp_arith [nD_eq]
      · simp_arith [keys_f (fun q : Nat => (q : Int)), dst_nat, List.length_map]
        have hc := Mx.card_le (Mx.gJ (Mx.partC done) x)
        have hci := Mx.card_eq_iff (Mx.gJ (Mx.partC done) x)
        refine brd (fun q => ?_) fun q => ?_
        · simp_arith
          have : p = false := by
            cases hpp : p with
            | false => rfl
            | true =>
              have hfo := hp.mp hpp
              rw [hx] at hfo
              have := hci.mpr hfo.last
              omega
          rw [this]
        · simp_arith
          refine wE_map (Mx.partC done) nD (fun q => nD (if q ∈ Mx.gJ (Mx.partC done) x then done.length else q)) ?_
          simp_arith [h1, h2, h3, h4, h5]
          refine ⟨by omega, ?_, ?_⟩
          · intro q hq
            simp_arith [nD_eq, in_nats]
            refine brd (fun k => ?_) fun k => ?_
            · simp_arith [k]
            · simp_arith [k]
          · simp_arith [List.length_map, hpl, List.length_append]
            rw [part_eq]
            exact ⟨by omega, hf.snoc (hci.mp (by omega)), _, _, _, _, _, rfl, rfl, rfl, rfl, h4, h5⟩
  · rintro ze ⟨hf, s1, s2, s3, s4, s5, rfl, h1, h2, h3, h4, h5⟩
    simp_arith
    rw [hp.mpr hf]
theorem r_two_colours (n : Nat) (ts : Mx.Ties) (hv : Mx.Vd ts) (hl : ts.length ≤ 64) (b : Bg) : run tab (n + 1) "two_colours" [.d (.tuple (ts.map tD))] b = some (.d (.tuple ((Mx.twoC ts).map PyData.int)), b) := by
  refine wR_eq ?_
  rw [wRun f_two_colours]
  simp_arith [d_two_colours]
  refine wS_enum ts tD (fun done z => ∃ s1 s2 s3 s4 s5 s6 s7, z = ⟨[.val (.tuple (ts.map tD)), .own ((Mx.partC done).map nD), .own ((Mx.twoC done).map PyData.int), s1, s2, s3, s4, s5, s6, s7], b⟩ ∧ setOk s1 = true ∧ setOk s2 = true ∧ setOk s3 = true ∧ setOk s4 = true ∧ quietB s5 = true ∧ quietB s6 = true ∧ quietB s7 = true) ?_
  simp_arith
  refine ⟨⟨_, _, _, _, _, _, _, rfl, rfl, rfl, rfl, rfl, rfl, rfl, rfl⟩, ?_, ?_⟩
  · rintro done x rest zc hx ⟨s1, s2, s3, s4, s5, s6, s7, rfl, h1, h2, h3, h4, h5, h6, h7⟩
    have hlt := lens hx
    have hr : Mx.RowOk done.length x := hv done x rest hx
    have hxl := hr.len
    have hpl := Mx.partC_len done
    have htl := Mx.twoC_len done
    simp_arith [h1, h2, h3, h4, h5, h6, h7, tD]
    refine wE_comp x nD (fun j => decide ((Mx.twoC done).getD j 0 = 0)) (fun j => nD ((Mx.partC done).getD j 0)) ?_
    simp_arith [h1, h2, h3, h4, h5, h6, h7]
    refine ⟨by omega, ?_, ?_⟩
    · intro j hj
      have := hr.2 j hj
      simp_arith [nD_eq, at_map (0 : Int) (show j < (Mx.twoC done).length by omega), at_map 0 (show j < (Mx.partC done).length by omega)]
      refine brd (fun k => ?_) fun k => ?_
      · simp_arith [k, at_map 0 (show j < (Mx.partC done).length by omega)]
        rfl
      · simp_arith [k]
    · have htu : (List.map (fun j => nD ((Mx.partC done).getD j 0)) (x.filter fun j => decide ((Mx.twoC done).getD j 0 = 0))) = ((x.filter fun j => decide ((Mx.twoC done).getD j 0 = 0)).map fun j => (Mx.partC done).getD j 0).map nD := by simp
      rw [htu]
      refine wE_map x nD (fun j => nD ((Mx.partC done).getD j 0)) ?_
      simp_arith [h1, h2, h3, h4, h5, h6, h7]
      refine ⟨by omega, ?_, ?_⟩
      · intro j hj
        have := hr.2 j hj
        simp_arith [nD_eq, at_map 0 (show j < (Mx.partC done).length by omega)]
      · rw [met_eq]
        refine wE_map ((Mx.twoC done).zip (Mx.partC done)) (fun q => .tuple [.int q.1, nD q.2]) (fun q => .int (if q.2 ∈ (x.filter fun j => decide ((Mx.twoC done).getD j 0 = 0)).map (fun j => (Mx.partC done).getD j 0) then 1 - q.1 else q.1)) ?_
        simp_arith [h1, h2, h3, h4, h5, h6, h7, zip_map]
        refine ⟨by rw [List.length_zip]; omega, ?_, ?_⟩
        · intro q hq
          simp_arith [nD_eq, in_nats]
          refine brd (fun k => ?_) fun k => ?_
          · simp_arith [k]
          · simp_arith [k]
        · simp_arith [List.length_map, List.length_zip, hpl, htl, Nat.min_self]
          refine ⟨by omega, ?_⟩
          refine wE_map (Mx.partC done) nD (fun q => nD (if q ∈ Mx.gJ (Mx.partC done) x then done.length else q)) ?_
          simp_arith [h1, h2, h3, h4, h5, h6, h7]
          refine ⟨by omega, ?_, ?_⟩
          · intro q hq
            simp_arith [nD_eq, in_nats]
            refine brd (fun k => ?_) fun k => ?_
            · simp_arith [k]
            · simp_arith [k]
          · simp_arith [List.length_map, hpl, List.length_append]
            rw [part_eq, two_eq]
            exact ⟨by omega, _, _, _, _, _, _, _, rfl, rfl, rfl, rfl, rfl, h5, h6, h7⟩
  · rintro ze ⟨s1, s2, s3, s4, s5, s6, s7, rfl, h1, h2, h3, h4, h5, h6, h7⟩
    simp_arith
end k83_whole_forests_towers

namespace k83_whole_forests_towers
open PySem PySem.Spec L2 Mz
def BgOk (b : Bg) : Prop := 0 ≤ b.mix ∧ b.mix < 2147483647
theorem log_le {i : Int} {k : Nat} (h : i.natAbs < 2 ^ k) (hk : 0 < k) : i.natAbs.log2 < k := by
  by_cases h0 : i.natAbs = 0
  · rw [h0]; simpa using hk
  · exact (Nat.log2_lt h0).mpr h
theorem w_draw (n : Nat) (below : Int) (b : Bg) (h0 : 0 < below) (h1 : below ≤ 1000000) (hb : BgOk b) (K : R × Bg → Prop) (hK : ∀ (r : Nat) b', (r : Int) < below → BgOk b' → K (.d (nD r), b')) : wR (run tab (n + 1) "_law_draw" [.bag, .d (.int below)] b) K := by
  rw [wRun f__law_draw]
  have hlog : below.natAbs.log2 < 9000 := log_le (k := 9000) (Nat.lt_of_lt_of_le (show below.natAbs < 2 ^ 20 by omega) (Nat.pow_le_pow_right (by omega) (by omega))) (by omega)
  have fin : ∀ (x : Int) b', BgOk b' → K (.d (.int (x % below)), b') := fun x b' hb' => by
    have e1 := Int.emod_nonneg x (show below ≠ 0 by omega)
    have e2 := Int.emod_lt_of_pos x h0
    have := hK (x % below).toNat b' (by omega) hb'
    rwa [nD_eq, Int.toNat_of_nonneg e1] at this
  simp_arith [d__law_draw]
  refine wS_mid (fun z => ∃ s2 s3 b', z = ⟨[.bag, .val (.int below), s2, s3, .no], b'⟩ ∧ setOk s2 = true ∧ setOk s3 = true ∧ BgOk b') ?_ ?_
  · refine wS_for (List.range 64) nD (fun done z => ∃ s2 s3 b', z = ⟨[.bag, .val (.int below), s2, s3, .no], b'⟩ ∧ setOk s2 = true ∧ setOk s3 = true ∧ BgOk b') ?_
    simp_arith [okI_in (i := 64) (by omega) (by omega), show rgD 0 64 = (List.range 64).map nD from rg_nat 64]
    refine ⟨⟨_, _, _, rfl, rfl, rfl, hb⟩, ?_, ?_⟩
    · rintro done x rest zc hx ⟨s2, s3, b', rfl, h2, h3, hb'⟩
      simp_arith [h2, h3, Bg.fld]
      refine brd (fun h => ?_) fun h => ?_
      · simp_arith
        exact ⟨_, _, _, rfl, rfl, h3, hb'⟩
      · simp_arith [eq_ints0]
        cases hc : b'.cells.isEmpty
        · have hne : b'.cells ≠ [] := fun z => by rw [z] at hc; cases hc
          have hl : b'.cells.length - 1 < b'.cells.length := by have := List.length_pos_iff.mpr hne; omega
          simp_arith [h3, List.getElem?_eq_getElem hl]
          refine ⟨by decide, ?_⟩
          refine brd (fun q => ?_) fun q => ?_
          · simp_arith [Bg.put]
            exact ⟨_, _, _, rfl, rfl, rfl, hb'⟩
          · simp_arith [Bg.put]
            exact ⟨_, _, _, rfl, rfl, rfl, hb'⟩
        · simp_arith
          exact ⟨_, _, _, rfl, rfl, h3, hb'⟩
    · rintro ze ⟨s2, s3, b', rfl, h2, h3, hb'⟩
      simp_arith
      exact ⟨_, _, _, rfl, h2, h3, hb'⟩
  · rintro z ⟨s2, s3, b', rfl, h2, h3, hb'⟩
    simp_arith [Bg.fld]
    refine brd (fun h => ?_) fun h => ?_
    · simp_arith [Bg.fld, Bg.put, h0, hlog, decide_true, Bool.and_true, bagJ]
      exact fin _ _ hb'
    · simp_arith [Bg.fld, Bg.put, h0, ifc_dec]
      obtain ⟨m1, m2⟩ := hb'
      have l1 : b'.mix.natAbs.log2 < 31 := log_le (by omega) (by omega)
      have e1 := Int.emod_nonneg (b'.mix * 48271 + 11) (show (2147483647 : Int) ≠ 0 by decide)
      have e2 := Int.emod_lt_of_pos (b'.mix * 48271 + 11) (show (0 : Int) < 2147483647 by decide)
      have l2 : ((b'.mix * 48271 + 11) % 2147483647).natAbs.log2 < 31 := log_le (by omega) (by omega)
      have l3 : (Int.natAbs 48271).log2 < 17 := by decide
      exact ⟨by omega, by decide, by omega, by decide, by decide, fin _ _ ⟨e1, e2⟩⟩
theorem w_pick (n : Nat) (xs : List PyData) (v : PyData) (b : Bg) (hv : v = .list xs ∨ v = .tuple xs) (h0 : xs ≠ []) (h1 : xs.length ≤ 1000000) (hb : BgOk b) (K : R × Bg → Prop) (hK : ∀ x ∈ xs, ∀ b', BgOk b' → K (.d x, b')) :
    wR (run tab (n + 2) "_law_pick" [.bag, .d v] b) K := by
  rw [wRun f__law_pick]
  have hp := List.length_pos_iff.mpr h0
  simp_arith [d__law_pick]
  have fin : ∀ (r : Nat) b', (r : Int) < (xs.length : Int) → BgOk b' → (atI xs (r : Int)).map R.d = some (.d (xs.getD r .none)) ∧ K (.d (xs.getD r .none), b') := fun r b' hr hb' =>
    ⟨by rw [atI_nat .none (by omega)]; rfl, hK _ (Mx.getD_mem (by omega)) b' hb'⟩
  rcases hv with rfl | rfl
  · simp_arith
    refine w_draw n _ b (by omega) (by omega) hb _ fun r b' hr hb' => ?_
    simp_arith [nD_eq, (fin r b' hr hb').1]
    exact (fin r b' hr hb').2
  · simp_arith
    refine w_draw n _ b (by omega) (by omega) hb _ fun r b' hr hb' => ?_
    simp_arith [nD_eq, (fin r b' hr hb').1]
    exact (fin r b' hr hb').2
theorem r_int (n : Nat) (v : PyData) (b : Bg) : run tab (n + 1) "_law_int" [.d v] b = some (.d (.bool (isInt v)), b) := by
  refine wR_eq ?_
  rw [wRun f__law_int]
  cases v <;> simp_arith [d__law_int, isInt]
/-! ### plain data -/
mutual
def plD : PyData → Bool
  | .list _ => false
  | .dict _ => false
  | .tuple xs => decide (xs.length ≤ 16777216) && plA xs
  | _ => true
def plA : List PyData → Bool
  | [] => true
  | x :: xs => plD x && plA xs
end
theorem plA_mem : ∀ {xs : List PyData}, plA xs = true → ∀ x ∈ xs, plD x = true
  | y :: ys, h, x, hx => by
    simp only [plA, Bool.and_eq_true] at h
    rcases List.mem_cons.mp hx with rfl | hx
    · exact h.1
    · exact plA_mem h.2 x hx
theorem depA_mem : ∀ {xs : List PyData}, ∀ x ∈ xs, x.depth ≤ PyData.depthAll xs
  | y :: ys, x, hx => by
    simp only [PyData.depthAll]
    rcases List.mem_cons.mp hx with rfl | hx
    · omega
    · have := depA_mem x hx; omega
theorem zip_self (xs : List PyData) : zipD xs xs = xs.map fun x => .tuple [x, x] := by
  have h : xs.zip xs = xs.map fun x => (x, x) := by
    induction xs with
    | nil => rfl
    | cons a r ih => rw [List.zip_cons_cons, ih]; rfl
  unfold zipD
  rw [h, List.map_map]; rfl
theorem r_same (b : Bg) (n : Nat) : ∀ (k : Nat) (d : PyData), plD d = true → d.depth ≤ k → run tab (n + k + 1) "_law_same" [.d d, .d d] b = some (.d (.bool true), b) := by
  intro k
  induction k with
  | zero =>
    intro d hp hd
    refine wR_eq ?_
    rw [wRun f__law_same]
    cases d <;> simp_arith [d__law_same]
    case bool p =>
      rw [show (p == true) = p by cases p <;> rfl]
      cases p
      · simp_arith
        rw [show (false == false) = true from rfl]
        simp_arith
        rfl
      · simp_arith
        rfl
    all_goals first | (simp [plD] at hp; done) | (simp [PyData.depth] at hd; done) | skip
  | succ k ih =>
    intro d hp hd
    refine wR_eq ?_
    rw [show n + (k + 1) + 1 = (n + k + 1) + 1 from rfl, wRun f__law_same]
    cases d <;> simp_arith [d__law_same]
    case bool p =>
      rw [show (p == true) = p by cases p <;> rfl]
      cases p
      · simp_arith
        rw [show (false == false) = true from rfl]
        simp_arith
        rfl
      · simp_arith
        rfl
    all_goals first | (simp [plD] at hp; done) | skip
    rename_i xs
    simp only [plD, Bool.and_eq_true, decide_eq_true_eq] at hp
    simp only [PyData.depth] at hd
    refine wE_map xs (fun x => .tuple [x, x]) (fun _ => .bool true) ?_
    simp_arith [zip_self]
    refine ⟨hp.1, ?_, ?_⟩
    · intro x hx
      have := depA_mem x hx
      simp_arith [ih x (plA_mem hp.2 x hx) (by omega)]
    · simp_arith [bls_f (fun _ => true)]
      rw [show ((xs.map fun _ => true).all id) = true by simp]
end k83_whole_forests_towers

namespace k83_whole_forests_towers
open PySem PySem.Spec L2 Mz
/-! ### data with bounds -/
mutual
def gdB (B : Nat) : PyData → Bool
  | .int i => decide (i.natAbs < B)
  | .str x => x.cps.toList.all fun c => decide (c < 4294967296)
  | .list xs => gdA B xs
  | .tuple xs => gdA B xs
  | .dict kvs => gdK B kvs
  | .none => true
  | .bool _ => true
def gdA (B : Nat) : List PyData → Bool
  | [] => true
  | x :: xs => gdB B x && gdA B xs
def gdK (B : Nat) : List (PyData × PyData) → Bool
  | [] => true
  | (a, b) :: r => gdB B a && gdB B b && gdK B r
end
section
variable {B B' : Nat}
theorem gdA_mem : ∀ {xs : List PyData}, gdA B xs = true ↔ ∀ x ∈ xs, gdB B x = true
  | [] => by simp [gdA]
  | y :: ys => by simp [gdA, gdA_mem (xs := ys)]
mutual
theorem gdB_mono (h : B ≤ B') : ∀ d : PyData, gdB B d = true → gdB B' d = true
  | .int i, e => by simp only [gdB, decide_eq_true_eq] at e ⊢; omega
  | .str x, e => by simpa only [gdB] using e
  | .list xs, e => by simp only [gdB] at e ⊢; exact gdA_mono h xs e
  | .tuple xs, e => by simp only [gdB] at e ⊢; exact gdA_mono h xs e
  | .dict kvs, e => by simp only [gdB] at e ⊢; exact gdK_mono h kvs e
  | .none, _ => by simp only [gdB]
  | .bool _, _ => by simp only [gdB]
theorem gdA_mono (h : B ≤ B') : ∀ xs : List PyData, gdA B xs = true → gdA B' xs = true
  | [], _ => by simp only [gdA]
  | x :: xs, e => by
    simp only [gdA, Bool.and_eq_true] at e ⊢
    exact ⟨gdB_mono h x e.1, gdA_mono h xs e.2⟩
theorem gdK_mono (h : B ≤ B') : ∀ xs : List (PyData × PyData), gdK B xs = true → gdK B' xs = true
  | [], _ => by simp only [gdK]
  | (a, b) :: xs, e => by
    simp only [gdK, Bool.and_eq_true] at e ⊢
    exact ⟨⟨gdB_mono h a e.1.1, gdB_mono h b e.1.2⟩, gdK_mono h xs e.2⟩
end
theorem int_short {i : Int} (h : i.natAbs < 10 ^ 50) : i.natAbs.log2 < 1920 ∧ (PyData.shown (.int i)).length ≤ 60 := by
  refine ⟨?_, ?_⟩
  · exact log_le (Nat.lt_of_lt_of_le h (Nat.le_trans (show (10 : Nat) ^ 50 ≤ 2 ^ 167 by decide) (Nat.pow_le_pow_right (by omega) (by omega)))) (by omega)
  · have h2 := int_text_length_le10 (a := i) (k := 50) (by omega) h
    show (Str.ofString (toString i)).length ≤ 60
    rw [ofString_length]; omega
mutual
theorem gd_short (h : B ≤ 10 ^ 50) : ∀ d : PyData, gdB B d = true → d.showable = true ∧ d.leavesShort 60 = true
  | .int i, e => by
    simp only [gdB, decide_eq_true_eq] at e
    obtain ⟨h1, h2⟩ := int_short (i := i) (by omega)
    simp only [PyData.showable, PyData.leavesShort, decide_eq_true_eq]
    exact ⟨h1, h2⟩
  | .str x, e => by
    simp only [gdB] at e
    simp only [PyData.showable, PyData.leavesShort]
    exact ⟨trivial, e⟩
  | .list xs, e => by
    simp only [gdB] at e
    simp only [PyData.showable, PyData.leavesShort]
    exact gdA_short h xs e
  | .tuple xs, e => by
    simp only [gdB] at e
    simp only [PyData.showable, PyData.leavesShort]
    exact gdA_short h xs e
  | .dict kvs, e => by
    simp only [gdB] at e
    simp only [PyData.showable, PyData.leavesShort]
    exact gdK_short h kvs e
  | .none, _ => by simp [PyData.showable, PyData.leavesShort]
  | .bool _, _ => by simp [PyData.showable, PyData.leavesShort]
theorem gdA_short (h : B ≤ 10 ^ 50) : ∀ xs : List PyData, gdA B xs = true → PyData.showableAll xs = true ∧ PyData.leavesShortAll 60 xs = true
  | [], _ => by simp [PyData.showableAll, PyData.leavesShortAll]
  | x :: xs, e => by
    simp only [gdA, Bool.and_eq_true] at e
    obtain ⟨h1, h2⟩ := gd_short h x e.1
    obtain ⟨h3, h4⟩ := gdA_short h xs e.2
    simp only [PyData.showableAll, PyData.leavesShortAll, h1, h2, h3, h4, Bool.and_self, and_self]
theorem gdK_short (h : B ≤ 10 ^ 50) : ∀ xs : List (PyData × PyData), gdK B xs = true → PyData.showableKv xs = true ∧ PyData.leavesShortKv 60 xs = true
  | [], _ => by simp [PyData.showableKv, PyData.leavesShortKv]
  | (a, b) :: xs, e => by
    simp only [gdK, Bool.and_eq_true] at e
    obtain ⟨h1, h2⟩ := gd_short h a e.1.1
    obtain ⟨k1, k2⟩ := gd_short h b e.1.2
    obtain ⟨h3, h4⟩ := gdK_short h xs e.2
    simp only [PyData.showableKv, PyData.leavesShortKv, h1, h2, h3, h4, k1, k2, Bool.and_self, and_self]
end
end
/-- data with ints below B, so many leaves, so deep -/
structure GD (B n k : Nat) (d : PyData) : Prop where
  gd : gdB B d = true
  bulk : d.bulk ≤ n
  dep : d.depth ≤ k
structure GA (B n k : Nat) (xs : List PyData) : Prop where
  gd : gdA B xs = true
  bulk : PyData.bulkAll xs ≤ n
  dep : PyData.depthAll xs ≤ k
section
variable {B B' n n' k k' : Nat} {d x : PyData} {xs ys : List PyData}
theorem GD.mono (h : GD B n k d) (hB : B ≤ B') (hn : n ≤ n') (hk : k ≤ k') : GD B' n' k' d := ⟨gdB_mono hB d h.gd, Nat.le_trans h.bulk hn, Nat.le_trans h.dep hk⟩
theorem GA.mono (h : GA B n k xs) (hB : B ≤ B') (hn : n ≤ n') (hk : k ≤ k') : GA B' n' k' xs := ⟨gdA_mono hB xs h.gd, Nat.le_trans h.bulk hn, Nat.le_trans h.dep hk⟩
theorem GD.show (h : GD B n k d) (hB : B ≤ 10 ^ 50) (hn : n ≤ 200000) (hk : k ≤ 50) : reprS [d] = some (.d (.str d.shown)) := by
  obtain ⟨h1, h2⟩ := gd_short hB d h.gd
  have h3 := PyData.shown_le_bulk 60 (by omega) d h2
  have h4 := h.bulk
  have h5 := h.dep
  have : (60 + 2) * d.bulk ≤ (60 + 2) * 200000 := Nat.mul_le_mul_left _ (by omega)
  show ifc _ _ = _
  rw [h1, decide_eq_true (show d.shown.length ≤ sizeLine by show _ ≤ 2 ^ 24; omega), decide_eq_true (show d.depth ≤ 50 by omega)]
  rfl
theorem bulk_app : ∀ xs ys : List PyData, PyData.bulkAll (xs ++ ys) = PyData.bulkAll xs + PyData.bulkAll ys
  | [], ys => by simp [PyData.bulkAll]
  | x :: xs, ys => by simp only [List.cons_append, PyData.bulkAll, bulk_app xs ys]; omega
theorem dep_app : ∀ xs ys : List PyData, PyData.depthAll (xs ++ ys) = max (PyData.depthAll xs) (PyData.depthAll ys)
  | [], ys => by simp [PyData.depthAll]
  | x :: xs, ys => by simp only [List.cons_append, PyData.depthAll, dep_app xs ys]; omega
theorem gd_app : gdA B (xs ++ ys) = (gdA B xs && gdA B ys) := by
  induction xs with
  | nil => simp [gdA]
  | cons x xs ih => simp [gdA, ih, Bool.and_assoc]
theorem GA.tup (h : GA B n k xs) : GD B n (k + 1) (.tuple xs) := ⟨by simpa only [gdB] using h.gd, by simpa only [PyData.bulk] using h.bulk, by simp only [PyData.depth]; have := h.dep; omega⟩
theorem GA.lst (h : GA B n k xs) : GD B n (k + 1) (.list xs) := ⟨by simpa only [gdB] using h.gd, by simpa only [PyData.bulk] using h.bulk, by simp only [PyData.depth]; have := h.dep; omega⟩
theorem GD.ofT (h : GD B n k (.tuple xs)) : GA B n (k - 1) xs ∧ 1 ≤ k := by
  have h1 := h.gd
  have h2 := h.bulk
  have h3 := h.dep
  simp only [gdB, PyData.bulk, PyData.depth] at h1 h2 h3
  exact ⟨⟨h1, h2, by omega⟩, by omega⟩
theorem GD.ofL (h : GD B n k (.list xs)) : GA B n (k - 1) xs ∧ 1 ≤ k := by
  have h1 := h.gd
  have h2 := h.bulk
  have h3 := h.dep
  simp only [gdB, PyData.bulk, PyData.depth] at h1 h2 h3
  exact ⟨⟨h1, h2, by omega⟩, by omega⟩
theorem GA.app (h : GA B n k xs) (h' : GA B n' k ys) : GA B (n + n') k (xs ++ ys) := ⟨by rw [gd_app, h.gd, h'.gd]; rfl, by rw [bulk_app]; have := h.bulk; have := h'.bulk; omega, by rw [dep_app]; have := h.dep; have := h'.dep; omega⟩
theorem GA.one (h : GD B n k d) : GA B (n + 1) k [d] := ⟨by simp [gdA, h.gd], by simp only [PyData.bulkAll]; have := h.bulk; omega, by simp only [PyData.depthAll]; have := h.dep; omega⟩
theorem GA.nil : GA B 0 0 [] := ⟨by simp [gdA], by simp [PyData.bulkAll], by simp [PyData.depthAll]⟩
theorem GA.of_app (h : GA B n k (xs ++ ys)) : ∃ n1 n2, n1 + n2 ≤ n ∧ GA B n1 k xs ∧ GA B n2 k ys := by
  have h1 := h.gd
  have h2 := h.bulk
  have h3 := h.dep
  rw [gd_app, Bool.and_eq_true] at h1
  rw [bulk_app] at h2
  rw [dep_app] at h3
  exact ⟨_, _, h2, ⟨h1.1, Nat.le_refl _, by omega⟩, ⟨h1.2, Nat.le_refl _, by omega⟩⟩
theorem GA.of_cons (h : GA B n k (d :: xs)) : ∃ n1 n2, n1 + n2 + 1 ≤ n ∧ GD B n1 k d ∧ GA B n2 k xs := by
  have h1 := h.gd
  have h2 := h.bulk
  have h3 := h.dep
  simp only [gdA, Bool.and_eq_true] at h1
  simp only [PyData.bulkAll] at h2
  simp only [PyData.depthAll] at h3
  exact ⟨_, _, by omega, ⟨h1.1, Nat.le_refl _, by omega⟩, ⟨h1.2, Nat.le_refl _, by omega⟩⟩
theorem GA.mem (h : GA B n k xs) (hx : d ∈ xs) : GD B n k d := by
  obtain ⟨l, r, rfl⟩ := List.append_of_mem hx
  obtain ⟨_, n2, h0, _, h1⟩ := h.of_app
  obtain ⟨n3, _, h3, h4, _⟩ := h1.of_cons
  exact h4.mono (Nat.le_refl _) (by omega) (Nat.le_refl _)
theorem len_bulk : ∀ xs : List PyData, xs.length ≤ PyData.bulkAll xs
  | [] => by simp
  | x :: xs => by have := len_bulk xs; simp only [List.length_cons, PyData.bulkAll]; omega
theorem GA.len (h : GA B n k xs) : xs.length ≤ n := Nat.le_trans (len_bulk xs) h.bulk
theorem GA.take (h : GA B n k xs) (i : Nat) : GA B n k (xs.take i) := by
  rw [← List.take_append_drop i xs] at h
  obtain ⟨n1, n2, h0, h1, _⟩ := h.of_app
  exact h1.mono (Nat.le_refl _) (by omega) (Nat.le_refl _)
theorem GA.drop (h : GA B n k xs) (i : Nat) : GA B n k (xs.drop i) := by
  rw [← List.take_append_drop i xs] at h
  obtain ⟨n1, n2, h0, _, h1⟩ := h.of_app
  exact h1.mono (Nat.le_refl _) (by omega) (Nat.le_refl _)
theorem GA.ints {ns : List Int} (h : ∀ i ∈ ns, i.natAbs < B) : GA B ns.length 0 (ns.map PyData.int) := by
  induction ns with
  | nil => exact GA.nil
  | cons a r ih =>
    have h1 : GD B 0 0 (.int a) := ⟨by simp only [gdB, decide_eq_true_eq]; exact h a List.mem_cons_self, by simp [PyData.bulk], by simp [PyData.depth]⟩
    have := (GA.one h1).app (ih fun i hi => h i (List.mem_cons_of_mem _ hi))
    exact this.mono (Nat.le_refl _) (by simp only [List.length_cons]; omega) (Nat.le_refl _)
end
end k83_whole_forests_towers

namespace k83_whole_forests_towers
open PySem PySem.Spec L2 Mz
theorem cut_drop1 (xs : List PyData) (k : Nat) : cutD xs (some ((k : Int) + 1)) none = xs.drop (k + 1) := cut_drop xs (k + 1)
theorem cut_drop2 (xs : List PyData) (k : Nat) : cutD xs (some ((k : Int) + 2)) none = xs.drop (k + 2) := cut_drop xs (k + 2)
theorem cut_mid1 (xs : List PyData) (k : Nat) : cutD xs (some (k : Int)) (some ((k : Int) + 1)) = (xs.drop k).take 1 := by
  have := cut_mid xs k (k + 1)
  rwa [show k + 1 - k = 1 by omega] at this
theorem cut_mid2 (xs : List PyData) (k : Nat) : cutD xs (some (k : Int)) (some ((k : Int) + 2)) = (xs.drop k).take 2 := by
  have := cut_mid xs k (k + 2)
  rwa [show k + 2 - k = 2 by omega] at this
theorem w_odd (n : Nat) (b : Bg) (hb : BgOk b) (K : R × Bg → Prop) (hK : ∀ d, GD (10 ^ 40) 10 4 d → ∀ b', BgOk b' → K (.d d, b')) : wR (run tab (n + 3) "_law_odd" [.bag] b) K := by
  rw [wRun f__law_odd]
  simp_arith [d__law_odd]
  refine ⟨by decide, ?_⟩
  refine w_pick n _ _ b (.inl rfl) (by simp) (by simp) hb _ fun x hx b' hb' => ?_
  simp_arith
  refine hK x ?_ b' hb'
  have key : (([PyData.none, .bool true, .bool false, .str "", .str "0", .str "form", .int 0, .int (-1), .int (10 ^ Int.toNat 39), .tuple [], .tuple [.tuple []], .list [.int 0], .list [], .dict [], .dict [(.str "a", .list [.int 1])], .tuple [.list [.int 0]], .tuple [.none], .tuple [.int 0, .int 0], .tuple [.bool true, .bool false], .tuple [.str "0"]] : List PyData).all fun d => gdB (10 ^ 40) d && (decide (d.bulk ≤ 10) && decide (d.depth ≤ 4))) = true := by decide +kernel
  have := List.all_eq_true.mp key x hx
  simp only [Bool.and_eq_true, decide_eq_true_eq] at this
  exact ⟨this.1, this.2.1, this.2.2⟩
theorem rev_bulk : ∀ xs : List PyData, PyData.bulkAll xs.reverse = PyData.bulkAll xs ∧ PyData.depthAll xs.reverse = PyData.depthAll xs ∧ ∀ B, gdA B xs.reverse = gdA B xs
  | [] => ⟨rfl, rfl, fun _ => rfl⟩
  | x :: xs => by
    obtain ⟨h1, h2, h3⟩ := rev_bulk xs
    rw [List.reverse_cons]
    refine ⟨?_, ?_, fun B => ?_⟩
    · rw [bulk_app, h1]; simp only [PyData.bulkAll]; omega
    · rw [dep_app, h2]; simp only [PyData.depthAll]; omega
    · rw [gd_app, h3]; simp only [gdA, Bool.and_true]; exact Bool.and_comm _ _
theorem GA.rev {B n k : Nat} {xs : List PyData} (h : GA B n k xs) : GA B n k xs.reverse := by
  obtain ⟨h1, h2, h3⟩ := rev_bulk xs
  exact ⟨by rw [h3]; exact h.gd, by rw [h1]; exact h.bulk, by rw [h2]; exact h.dep⟩
def OtherOk (n deep : Nat) : Prop := ∀ (B N k : Nat) (x : PyData) (b : Bg), GD B N k x → 10 ^ 40 ≤ B → B + 64 ≤ 10 ^ 50 → N ≤ 200000 → BgOk b → ∀ K : R × Bg → Prop, (∀ y b', GD (B + 64) (2 * N + 100) (k + 4) y → BgOk b' → K (.d y, b')) → wR (run tab (n + deep + 5) "_law_other" [.bag, .d x, .d (.int (deep : Nat))] b) K
theorem gd_int {B : Nat} {i : Int} (h : i.natAbs < B) (n k : Nat) : GD B n k (.int i) := ⟨by simp only [gdB, decide_eq_true_eq]; exact h, by simp [PyData.bulk], by simp [PyData.depth]⟩
theorem gd_str {i : Int} (h : i.natAbs < 10 ^ 50) (B k : Nat) : GD B 60 k (.str (toString i)) := by
  refine ⟨?_, ?_, by simp [PyData.depth]⟩
  · simp only [gdB, List.all_eq_true, decide_eq_true_eq]
    intro c hc
    have e : (toString i : Str) = Str.ofString (toString i) := rfl
    rw [e, PyProof.Rows.signs_ofString] at hc
    obtain ⟨ch, _, rfl⟩ := List.mem_map.mp hc
    have := ch.val.toNat_lt
    have e2 : ch.toNat = ch.val.toNat := rfl
    omega
  · simp only [PyData.bulk]
    exact (int_short h).2
theorem other_int (n : Nat) (i : Int) (deep : Nat) (way : Nat) (B N k : Nat) (b : Bg) (hB : 10 ^ 40 ≤ B) (hB2 : B + 64 ≤ 10 ^ 50) (hi : i.natAbs < B) (hb : BgOk b) (K : R × Bg → Prop) (hK : ∀ y b', GD (B + 64) (2 * N + 100) (k + 4) y → BgOk b' → K (.d y, b')) :
    ∀ x ∈ ([.int (i + 1), .int (i - 1), .int (-1 - i), .bool (decide (0 < i)), .str (toString i), .none, .tuple [.int i], .int (i + 64), .int (1 - i)] : List PyData), ∀ b', BgOk b' → K (.d x, b') := by
  intro x hx b' hb'
  refine hK x b' ?_ hb'
  simp only [List.mem_cons, List.not_mem_nil, or_false] at hx
  rcases hx with rfl | rfl | rfl | rfl | rfl | rfl | rfl | rfl | rfl
  · exact gd_int (by omega) _ _
  · exact gd_int (by omega) _ _
  · exact gd_int (by omega) _ _
  · exact ⟨by simp [gdB], by simp [PyData.bulk], by simp [PyData.depth]⟩
  · exact (gd_str (by omega) _ (k + 4)).mono (Nat.le_refl _) (by omega) (Nat.le_refl _)
  · exact ⟨by simp [gdB], by simp [PyData.bulk], by simp [PyData.depth]⟩
  · exact (GA.one (gd_int (B := B + 64) (i := i) (by omega) 0 (k + 3))).tup.mono (Nat.le_refl _) (by omega) (Nat.le_refl _)
  · exact gd_int (by omega) _ _
  · exact gd_int (by omega) _ _
theorem GA.cat {B n1 n2 k1 k2 : Nat} {xs ys : List PyData} (h : GA B n1 k1 xs) (h' : GA B n2 k2 ys) {N k : Nat} (hn : n1 + n2 ≤ N) (h1 : k1 ≤ k) (h2 : k2 ≤ k) : GA B N k (xs ++ ys) := ((h.mono (Nat.le_refl _) (Nat.le_refl _) h1).app (h'.mono (Nat.le_refl _) (Nat.le_refl _) h2)).mono (Nat.le_refl _) hn (Nat.le_refl _)
theorem other_tup (at' : Nat) (xs : List PyData) (B N k : Nat) (h : GA B N k xs) (hB : 10 ^ 40 ≤ B) (K : R × Bg → Prop) (hK : ∀ y b', GD (B + 64) (2 * N + 100) (k + 1 + 4) y → BgOk b' → K (.d y, b')) :
    ∀ x ∈ ([.list xs, .tuple xs.dropLast, .tuple (xs ++ [.int 0]), .tuple (xs ++ xs.drop (xs.length - 1)), .tuple ((xs.take at' ++ ((xs.drop at').take 2).reverse) ++ xs.drop (at' + 2)), .tuple (xs.take at' ++ xs.drop (at' + 1)), .tuple ((xs.take at' ++ [.tuple []]) ++ xs.drop at'), .tuple ((xs.take at' ++ (xs.drop at').take 1) ++ xs.drop at')] : List PyData), ∀ b', BgOk b' → K (.d x, b') := by
  intro x hx b' hb'
  refine hK x b' ?_ hb'
  have e1 : xs.take at' ++ xs.drop at' = xs := List.take_append_drop at' xs
  have h' := h
  rw [← e1] at h'
  obtain ⟨n1, n2, hn, g1, g2⟩ := h'.of_app
  have e2 : (xs.drop at').take 2 ++ xs.drop (at' + 2) = xs.drop at' := by
    rw [← List.drop_drop]; exact List.take_append_drop 2 _
  have g2' := g2
  rw [← e2] at g2'
  obtain ⟨n3, n4, hn2, g3, g4⟩ := g2'.of_app
  have g0 : GA B 1 0 [.int 0] := (GA.ints (ns := [0]) (by simp; omega))
  have g5 : GA B 1 1 [.tuple []] := (GA.one (GA.nil (B := B)).tup)
  have up : ∀ {n k' : Nat} {ys : List PyData}, GA B n k' ys → n ≤ 2 * N + 100 → k' ≤ k + 4 → GD (B + 64) (2 * N + 100) (k + 1 + 4) (.tuple ys) := fun g h1 h2 => g.tup.mono (by omega) h1 (by omega)
  simp only [List.mem_cons, List.not_mem_nil, or_false] at hx
  rcases hx with rfl | rfl | rfl | rfl | rfl | rfl | rfl | rfl
  · exact h.lst.mono (by omega) (by omega) (by omega)
  · rw [List.dropLast_eq_take]; exact up (h.take _) (by omega) (by omega)
  · exact up (h.cat g0 (Nat.le_refl _) (Nat.le_refl _) (by omega)) (by omega) (by omega)
  · exact up (h.cat (h.drop _) (Nat.le_refl _) (Nat.le_refl _) (by omega)) (by omega) (by omega)
  · exact up ((g1.cat g3.rev (Nat.le_refl _) (Nat.le_refl _) (Nat.le_refl _)).cat g4 (Nat.le_refl _) (Nat.le_refl _) (Nat.le_refl _)) (by omega) (by omega)
  · have : xs.drop (at' + 1) = (xs.drop at').drop 1 := by rw [List.drop_drop]
    rw [this]
    exact up (g1.cat (g2.drop 1) (Nat.le_refl _) (Nat.le_refl _) (Nat.le_refl _)) (by omega) (by omega)
  · exact up ((g1.cat g5 (k := k + 1) (Nat.le_refl _) (by omega) (by omega)).cat g2 (Nat.le_refl _) (Nat.le_refl _) (by omega)) (by omega) (by omega)
  · exact up ((g1.cat (g2.take 1) (Nat.le_refl _) (Nat.le_refl _) (Nat.le_refl _)).cat g2 (Nat.le_refl _) (Nat.le_refl _) (Nat.le_refl _)) (by omega) (by omega)
theorem k_and {Q : U → Z → Prop} {g : MU} {z : Z} {b : Bool} (h : Q (.d (.bool false)) z) (h2 : b = true → wE g z Q) : KAnd2 Q g z b := by cases b with | true => exact h2 rfl | false => exact h
theorem k_and3 {Q : U → Z → Prop} {g : MU} {z : Z} {b : Bool} (h2 : Q (.d (.bool false)) z → b = true → wE g z Q) (h : Q (.d (.bool false)) z) : KAnd2 Q g z b := k_and h (h2 h)
theorem other_step (n deep : Nat) (hrec : ∀ d', deep = d' + 1 → OtherOk n d') : OtherOk n deep := by
  intro B N k x b hx hB hB2 hN hb K hK
  rw [wRun f__law_other]
  simp_arith [d__law_other]
  refine w_draw (n + deep + 3) 12 b (by omega) (by omega) hb _ fun way b1 hw hb1 => ?_
  simp_arith [nD_eq]
  cases x <;> simp_arith [r_int, isInt]
  case int i =>
    have hi : i.natAbs < B := by have := hx.gd; simp only [gdB, decide_eq_true_eq] at this; exact this
    refine brd (fun h => ?_) fun h => ?_
    · simp_arith [show i.natAbs.log2 < 1920 from (int_short (by omega)).1, decide_true]
      exact w_pick (n + deep + 2) _ _ b1 (.inl rfl) (by simp) (by simp) hb1 _ (fun x hx b' hb' => by simp_arith; exact other_int n i deep way B N k b1 hB hB2 hi hb1 K hK x hx b' hb')
    · simp_arith
      exact w_odd (n + deep + 1) b1 hb1 _ fun d hd b' hb' => by
        simp_arith
        exact hK d b' (hd.mono (by omega) (by omega) (by omega)) hb'
  case tuple xs =>
    obtain ⟨hxs, hk1⟩ := hx.ofT
    have hlen := hxs.len
    refine k_and3 (fun second he => ?_) ?_
    · simp_arith
      refine k_and second fun h7 => ?_
      simp_arith
      refine brd (fun hd => ?_) (fun _ => by have s := second; simp only [KCo, asB_bool, wR_some] at s; exact s)
      have hne : xs ≠ [] := by intro z; rw [z] at he; cases he
      have hpos := List.length_pos_iff.mpr hne
      obtain ⟨d', rfl⟩ : ∃ d', deep = d' + 1 := ⟨deep - 1, by omega⟩
      simp_arith
      refine w_draw (n + (d' + 1) + 3) _ b1 (by omega) (by omega) hb1 _ fun r b2 hr hb2 => ?_
      simp_arith
      refine w_pick (n + (d' + 1) + 2) _ _ b2 (.inl rfl) (by simp) (by simp) hb2 _ fun a ha b3 hb3 => ?_
      obtain ⟨j, hj, rfl⟩ : ∃ j : Nat, j < xs.length ∧ a = nD j := by
        simp only [List.mem_cons, List.not_mem_nil, or_false] at ha
        rcases ha with rfl | rfl | rfl | rfl
        · exact ⟨0, hpos, rfl⟩
        · exact ⟨xs.length - 1, by omega, by rw [nD_eq]; congr 1; omega⟩
        · exact ⟨xs.length - 1, by omega, by rw [nD_eq]; congr 1; omega⟩
        · exact ⟨r, by omega, rfl⟩
      simp_arith [nD_eq, cut_take, atI_nat PyData.none hj, cut_drop1]
      have hsplit := Mx.getD_mem (l := xs) (d := PyData.none) hj
      obtain ⟨hx1, hx2⟩ : xs = xs.take j ++ xs.getD j .none :: xs.drop (j + 1) ∧ True := ⟨by
        rw [List.getD_eq_getElem?_getD, List.getElem?_eq_getElem hj]
        show xs = xs.take j ++ xs[j] :: xs.drop (j + 1)
        rw [List.getElem_cons_drop, List.take_append_drop], trivial⟩
      have h' := hxs
      rw [hx1] at h'
      obtain ⟨n1, n2, hn, g1, g2⟩ := h'.of_app
      obtain ⟨n3, n4, hn2, g3, g4⟩ := g2.of_cons
      rw [show ((d' + 1 : Nat) : Int) - 1 = (d' : Nat) by omega, show n + (d' + 1) + 4 = n + d' + 5 by omega]
      refine hrec d' rfl B n3 (k - 1) _ b3 g3 hB hB2 (by omega) hb3 _ fun y b4 hy hb4 => ?_
      simp_arith [cut_take, cut_drop1, List.length_take, List.length_drop, List.length_append]
      refine ⟨by omega, by omega, hK _ b4 ?_ hb4⟩
      have g1' : GA (B + 64) n1 (k + 3) (xs.take j) := g1.mono (by omega) (Nat.le_refl _) (by omega)
      have g4' : GA (B + 64) n4 (k + 3) (xs.drop (j + 1)) := g4.mono (by omega) (Nat.le_refl _) (by omega)
      have gy : GA (B + 64) (2 * n3 + 100 + 1) (k + 3) [y] := (GA.one hy).mono (Nat.le_refl _) (Nat.le_refl _) (by omega)
      exact (((g1'.app gy).app g4').tup).mono (Nat.le_refl _) (by omega) (by omega)
    · simp_arith
      refine brd (fun h11 => ?_) fun h11 => ?_
      · simp_arith
        refine w_draw (n + deep + 3) _ b1 (by omega) (by omega) hb1 _ fun r b2 hr hb2 => ?_
        simp_arith [nD_eq, cut_take, cut_mid2, cut_drop2, List.length_take, List.length_drop, List.length_append, List.length_reverse]
        refine ⟨by omega, by omega, ?_⟩
        simp_arith [cut_init, cut_last, cut_take, cut_mid1, cut_drop, cut_drop1, List.length_take, List.length_drop, List.length_append, List.length_reverse]
        refine ⟨by omega, by omega, by omega, by omega, by omega, by omega, by omega, ?_⟩
        refine w_pick (n + deep + 2) _ _ b2 (.inl rfl) (by simp) (by simp) hb2 _ fun a ha b3 hb3 => ?_
        simp_arith
        exact other_tup r xs B N (k - 1) hxs hB K (fun y b' hy hb' => hK y b' (hy.mono (Nat.le_refl _) (Nat.le_refl _) (by omega)) hb') a ha b3 hb3
      · simp_arith [r_int, isInt]
        exact w_odd (n + deep + 1) b1 hb1 _ fun d hd b' hb' => by
          simp_arith
          exact hK d b' (hd.mono (by omega) (by omega) (by omega)) hb'
  all_goals
    exact w_odd (n + deep + 1) b1 hb1 _ fun d hd b' hb' => by
      simp_arith
      exact hK d b' (hd.mono (by omega) (by omega) (by omega)) hb'
theorem w_other (n : Nat) : ∀ deep, OtherOk n deep
  | 0 => other_step n 0 fun d' h => by omega
  | d + 1 => other_step n (d + 1) fun d' h => by
    have : d' = d := by omega
    rw [this]; exact w_other n d
end k83_whole_forests_towers

namespace k83_whole_forests_towers
open PySem PySem.Spec L2 Mz
theorem w_bools (n : Nat) (B : Nat) (hB : 2 ≤ B) : ∀ (k : Nat) (x : PyData) (b : Bg), gdB B x = true → x.depth ≤ k → x.bulk ≤ 1000000 → wR (run tab (n + k + 2) "_law_bools" [.d x] b) fun p => ∃ y, p = (.d y, b) ∧ gdB B y = true ∧ y.bulk ≤ x.bulk ∧ y.depth ≤ x.depth := by
  intro k
  induction k with
  | zero =>
    intro x b hg hd hbk
    rw [wRun f__law_bools]
    cases x <;> simp_arith [d__law_bools, r_int, isInt]
    case int i =>
      refine brd (fun h => ?_) fun h => ?_
      · simp_arith
        refine brd (fun h => ?_) fun h => ?_
        · simp_arith
          exact ⟨_, rfl, by simp [gdB], by simp [PyData.bulk], by simp [PyData.depth]⟩
        · simp_arith
          exact ⟨_, rfl, hg, Nat.le_refl _, Nat.le_refl _⟩
      · simp_arith
        exact ⟨_, rfl, hg, Nat.le_refl _, Nat.le_refl _⟩
    all_goals first | exact ⟨_, rfl, hg, Nat.le_refl _, Nat.le_refl _⟩ | (simp [PyData.depth] at hd; done)
  | succ k ih =>
    intro x b hg hd hbk
    rw [show n + (k + 1) + 2 = (n + k + 2) + 1 by omega, wRun f__law_bools]
    cases x <;> simp_arith [d__law_bools, r_int, isInt]
    case int i =>
      refine brd (fun h => ?_) fun h => ?_
      · simp_arith
        refine brd (fun h => ?_) fun h => ?_
        · simp_arith
          exact ⟨_, rfl, by simp [gdB], by simp [PyData.bulk], by simp [PyData.depth]⟩
        · simp_arith
          exact ⟨_, rfl, hg, Nat.le_refl _, Nat.le_refl _⟩
      · simp_arith
        exact ⟨_, rfl, hg, Nat.le_refl _, Nat.le_refl _⟩
    case tuple xs =>
      simp only [gdB] at hg
      simp only [PyData.depth] at hd ⊢
      simp only [PyData.bulk] at hbk ⊢
      have hlen := len_bulk xs
      refine wE_compI xs id (fun done acc z => z = ⟨[.val (.tuple xs), .no], b⟩ ∧ gdA B acc = true ∧ PyData.bulkAll acc ≤ PyData.bulkAll done ∧ PyData.depthAll acc ≤ PyData.depthAll done) ?_
      simp_arith [List.map_id]
      refine ⟨by omega, ⟨by simp [gdA], by simp, by simp⟩, ?_, ?_⟩
      · rintro done x rest acc zc hx hacc ⟨rfl, h1, h2, h3⟩
        have hm : x ∈ xs := by rw [hx]; simp
        have hdx := depA_mem x hm
        have hbx : x.bulk ≤ PyData.bulkAll xs := by rw [hx, bulk_app]; simp only [PyData.bulkAll]; omega
        simp_arith [id]
        refine wR_mono (ih x b (gdA_mem.mp hg x hm) (by omega) (by omega)) ?_
        rintro _ ⟨y, rfl, y1, y2, y3⟩
        simp_arith
        refine ⟨?_, ?_, ?_⟩
        · show gdA B (acc ++ [y]) = true
          rw [gd_app, h1]; simp [gdA, y1]
        · show PyData.bulkAll (acc ++ [y]) ≤ _
          rw [bulk_app, bulk_app]; simp only [PyData.bulkAll]; omega
        · show PyData.depthAll (acc ++ [y]) ≤ _
          rw [dep_app, dep_app]; simp only [PyData.depthAll]; omega
      · rintro acc ze hacc ⟨rfl, h1, h2, h3⟩
        simp_arith
        exact ⟨_, rfl, by simpa only [gdB] using h1, by simpa only [PyData.bulk] using h2, by simp only [PyData.depth]; omega⟩
    all_goals exact ⟨_, rfl, hg, Nat.le_refl _, Nat.le_refl _⟩
theorem inR_lt (k : Int) (i : Nat) : inR (.int k) 0 ((i : Int) - 1) = (decide (0 ≤ k) && decide (k < (i : Int))) := by
  show (decide (0 ≤ k) && decide (k ≤ (i : Int) - 1)) = _
  congr 1
  exact decide_eq_decide.mpr (by omega)
theorem r_due_ties (n : Nat) (v : PyData) (b : Bg) (hv : gdT v) : run tab (n + 2) "_law_due_ties" [.d v] b = some (.d (tieErr v), b) := by
  refine wR_eq ?_
  rw [wRun f__law_due_ties]
  simp_arith [d__law_due_ties]
  cases v <;> simp_arith [tieErr]
  rename_i rows
  have hl := hv.1 rows rfl
  refine brd (fun h => ?_) fun h => ?_
  · simp_arith [show ¬ rows.length ≤ 64 by omega]
  · simp_arith
    refine wE_map rows id (fun d => .bool (isTup d)) ?_
    simp_arith [List.map_id]
    refine ⟨hl, ?_, ?_⟩
    · intro x hx
      cases x <;> simp_arith [id, isTup]
    · simp_arith [bls_f, all_id]
      cases ha : rows.all isTup
      · simp_arith [and_false]
      · simp_arith [show rows.length ≤ 64 by omega]
        refine wS_for rows.zipIdx (fun p => .tuple [nD p.2, p.1]) (fun done z => (∀ p ∈ done, plOk p.1 p.2 = true) ∧ ∃ s1 s2 s3 s4 s5, z = ⟨[.val (.tuple rows), s1, s2, s3, s4, s5], b⟩ ∧ setOk s1 = true ∧ setOk s2 = true ∧ quietB s3 = true ∧ quietB s4 = true ∧ quietB s5 = true) ?_
        simp_arith
        refine ⟨rfl, ⟨by simp, _, _, _, _, _, rfl, rfl, rfl, rfl, rfl, rfl⟩, ?_, ?_⟩
        · rintro done x rest zc hx ⟨hd, s1, s2, s3, s4, s5, rfl, h1, h2, h3, h4, h5⟩
          have hm : x ∈ rows.zipIdx := by rw [hx]; simp
          have hm1 := List.fst_mem_of_mem_zipIdx hm
          have ht := List.all_eq_true.mp ha _ hm1
          obtain ⟨ds, hds⟩ : ∃ ds, x.1 = .tuple ds := by cases hx1 : x.1 <;> rw [hx1] at ht <;> first | exact ⟨_, rfl⟩ | cases ht
          have hdl := hv.2 rows rfl ds (hds ▸ hm1)
          have bad : plOk x.1 x.2 = false → (R.d (.tuple [.str "knot", nD x.2]), b) = (R.d (match rows.zipIdx.find? fun p => !plOk p.1 p.2 with | some p => .tuple [.str "knot", nD p.2] | none => .none), b) := by
            intro hp
            rw [hx, find_hit (by intro y hy; simp [hd y hy]) (by simp [hp])]
          have good : plOk x.1 x.2 = true → ∀ p ∈ done ++ [x], plOk p.1 p.2 = true := by
            intro hp p hp'
            rcases List.mem_append.mp hp' with q | q
            · exact hd p q
            · simp at q; rw [q]; exact hp
          simp only [hds, plOk] at bad good
          simp_arith [h1, h2, h3, h4, h5, hds]
          refine wE_map ds id (fun d => .bool (inR d 0 ((x.2 : Int) - 1))) ?_
          simp_arith [h1, h2, h3, h4, h5, List.map_id]
          refine ⟨hdl, ?_, ?_⟩
          · intro d hd'
            simp_arith [id, r_int]
            cases d <;> simp_arith [isInt, nD_eq, inR_lt]
            case int q =>
              refine brd (fun h => ?_) fun h => ?_ <;> simp_arith [h, Bool.true_and, Bool.false_and, decide_true, decide_false]
            all_goals rfl
          · simp_arith [bls_f, all_id]
            cases h : ds.all fun d => inR d 0 ((x.2 : Int) - 1)
            · simp_arith
              exact bad (by rw [h]; rfl)
            · simp_arith
              have hi : ∀ d ∈ ds, isInt d = true := fun d hd => inR_int (List.all_eq_true.mp h d hd)
              have e := toI_map hi
              rw [h, Bool.true_and] at bad good
              generalize ds.map toI = ns at *
              subst e
              rw [List.length_map] at hdl
              refine wE_map (ns.zip (ns.drop 1)) (fun p => .tuple [.int p.1, .int p.2]) (fun p => .bool (decide (p.1 < p.2))) ?_
              simp_arith [h1, h2, h3, h4, h5, cut_one, map_drop', zip_map]
              refine ⟨by rw [List.length_zip]; omega, ?_, ?_⟩
              · intro q hq
                simp_arith
              · simp_arith [bls_f, all_id]
                have e2 : ((ns.zip (ns.drop 1)).all fun p => decide (p.1 < p.2)) = incr ns := by rw [List.drop_one]; rfl
                rw [e2]
                cases hq : incr ns
                · simp_arith
                  exact bad hq
                · simp_arith
                  exact ⟨good hq, _, _, _, _, _, rfl, rfl, rfl, h3, h4, h5⟩
        · rintro ze ⟨hd, s1, s2, s3, s4, s5, rfl, h1, h2, h3, h4, h5⟩
          simp_arith
          rw [find_miss (by intro y hy; simp [hd y hy])]
end k83_whole_forests_towers

namespace k83_whole_forests_towers
open PySem PySem.Spec L2 Mz
theorem at0 {α : Type} (a : α) (l : List α) : atI (a :: l) 0 = some a := by simpa using atI_nat (xs := a :: l) (j := 0) a (by simp)
theorem r_due_colours (n : Nat) (ts : Mx.Ties) (hts : Mx.Vd ts) (hn : ts.length ≤ 64) (v : PyData) (b : Bg) (hv : gdT v) : run tab (n + 2) "_law_due_colours" [.d (.tuple (ts.map tD)), .d v] b = some (.d (colD ts v), b) := by
  refine wR_eq ?_
  rw [wRun f__law_due_colours]
  simp_arith [d__law_due_colours]
  cases v <;> simp_arith [colD, List.length_map]
  rename_i ds
  by_cases h : ds.length = ts.length
  · simp_arith [h, decide_true]
    refine wE_map ds id (fun d => .bool (nn d)) ?_
    simp_arith [List.map_id]
    refine ⟨by omega, ?_, ?_⟩
    · intro x hx
      simp_arith [id, r_int]
      cases x <;> simp_arith [isInt, nn]
    · simp_arith [bls_f, all_id]
      cases ha : ds.all nn
      · simp_arith [and_false]
      · simp_arith [h]
        have hi : ∀ d ∈ ds, isInt d = true := fun d hd => nn_int (List.all_eq_true.mp ha d hd)
        have e := toI_map hi
        generalize ds.map toI = cs at *
        subst e
        rw [List.length_map] at h
        refine wS_for ts.zipIdx (fun p => .tuple [nD p.2, tD p.1]) (fun done z => (∀ p ∈ done, p.1.find? (fun j => decide (cs.getD p.2 0 = cs.getD j 0)) = none) ∧ ∃ s1 s2 s3 s4 s5, z = ⟨[.val (.tuple (ts.map tD)), .val (.tuple (cs.map PyData.int)), s1, s2, s3, s4, s5], b⟩ ∧ setOk s1 = true ∧ setOk s2 = true ∧ setOk s3 = true ∧ quietB s4 = true ∧ quietB s5 = true) ?_
        simp_arith [enum_map]
        refine ⟨⟨by simp, _, _, _, _, _, rfl, rfl, rfl, rfl, rfl, rfl⟩, ?_, ?_⟩
        · rintro done x rest zc hx ⟨hd, s1, s2, s3, s4, s5, rfl, h1, h2, h3, h4, h5⟩
          obtain ⟨hx2, hx1⟩ := zipIdx_at hx
          obtain ⟨hlt, hxe⟩ := List.getElem?_eq_some_iff.mp hx1
          have hro : Mx.RowOk done.length x.1 := by
            have := hts (ts.take done.length) x.1 (ts.drop (done.length + 1)) (by rw [← hxe, List.getElem_cons_drop, List.take_append_drop])
            rwa [List.length_take, Nat.min_eq_left (by omega)] at this
          have hxl := hro.len
          simp_arith [h1, h2, h3, h4, h5, tD]
          refine wE_comp x.1 nD (fun j => decide (cs.getD x.2 0 = cs.getD j 0)) nD ?_
          simp_arith [h1, h2, h3, h4, h5]
          refine ⟨by omega, ?_, ?_⟩
          · intro j hj
            have := hro.2 j hj
            simp_arith [nD_eq, at_map (0 : Int) (show x.2 < cs.length by omega), at_map (0 : Int) (show j < cs.length by omega)]
            rw [show decide (cs.getD j 0 = cs.getD x.2 0) = decide (cs.getD x.2 0 = cs.getD j 0) from decide_eq_decide.mpr ⟨Eq.symm, Eq.symm⟩]
            refine brd (fun q => ?_) fun q => ?_
            · simp_arith [q]
            · simp_arith [q]
          · simp_arith [eq_nats0]
            have hf : x.1.find? (fun j => decide (cs.getD x.2 0 = cs.getD j 0)) = (x.1.filter fun j => decide (cs.getD x.2 0 = cs.getD j 0)).head? := (List.head?_filter ..).symm
            cases hq : x.1.filter fun j => decide (cs.getD x.2 0 = cs.getD j 0) with
            | nil =>
              rw [hq] at hf
              simp_arith [List.isEmpty_nil]
              refine ⟨?_, _, _, _, _, _, rfl, rfl, rfl, rfl, h4, h5⟩
              intro p hp'
              rcases List.mem_append.mp hp' with r | r
              · exact hd p r
              · simp at r; rw [r]; exact hf
            | cons j r =>
              rw [hq] at hf
              simp_arith [List.isEmpty_cons, at0]
              rw [colErr, hx, find_hit (by intro y hy; rw [hd y hy]; rfl) (by rw [hf]; rfl)]
              show _ = (R.d (.tuple [.str "tie", nD x.2, nD ((x.1.find? fun j => decide (cs.getD x.2 0 = cs.getD j 0)).getD 0)]), b)
              rw [hf]; rfl
        · rintro ze ⟨hd, s1, s2, s3, s4, s5, rfl, h1, h2, h3, h4, h5⟩
          simp_arith [colErr]
          rw [find_miss (by intro y hy; rw [hd y hy]; rfl)]
  · simp_arith [h, false_and, decide_false, show ¬ ((ds.length : Int) = (ts.length : Int)) by omega]
/-! ### judges -/
theorem tieErr_pl (v : PyData) : plD (tieErr v) = true ∧ (tieErr v).depth ≤ 1 := by
  unfold tieErr
  split
  · split
    · split <;> simp [plD, plA, PyData.depth, PyData.depthAll, nD_eq]
    · simp [plD, PyData.depth]
  · simp [plD, PyData.depth]
theorem colD_pl (ts : Mx.Ties) (v : PyData) : plD (colD ts v) = true ∧ (colD ts v).depth ≤ 1 := by
  unfold colD
  split
  · split
    · unfold colErr
      split <;> simp [plD, plA, PyData.depth, PyData.depthAll, nD_eq]
    · simp [plD, PyData.depth]
  · simp [plD, PyData.depth]
theorem GD.gdT {B N k : Nat} {v : PyData} (h : GD B N k v) (hN : N ≤ 16777216) : gdT v := by
  refine ⟨fun rows e => ?_, fun rows e ds hd => ?_⟩
  · subst e
    have := h.ofT.1.len
    omega
  · subst e
    have h1 := h.ofT.1.mem hd
    have := h1.ofT.1.len
    omega
theorem canL_tD (ts : Mx.Ties) : PyData.canLayAll0 (ts.map tD) = true ∧ PyData.depthAll (ts.map tD) ≤ 1 := by
  induction ts with
  | nil => simp [PyData.canLayAll0, PyData.depthAll]
  | cons a r ih =>
    have e : a.map nD = (a.map fun j : Nat => (j : Int)).map PyData.int := by rw [List.map_map]; rfl
    have h1 := canL_ints (a.map fun j : Nat => (j : Int))
    have h2 := depL_ints (a.map fun j : Nat => (j : Int))
    rw [← e] at h1 h2
    simp only [List.map_cons, PyData.canLayAll0, PyData.depthAll, tD, PyData.canLay0, PyData.depth, h1, h2, Bool.true_and]
    exact ⟨ih.1, by have := ih.2; omega⟩
theorem eq_g (ts : Mx.Ties) : eqS (.list [.tuple (ts.map tD)]) (.list []) = some false := by
  obtain ⟨h1, h2⟩ := canL_tD ts
  have hs : SeqAt.shaped (.list [.tuple (ts.map tD)]) = true := by
    simp [SeqAt.shaped, PyData.canLay0, PyData.canLayAll0, PyData.depth, PyData.depthAll, h1]
    omega
  show ifc (SeqAt.shaped _ && SeqAt.shaped _) _ = _
  rw [hs, show SeqAt.shaped (.list []) = true from shp_ints []]
  simp [PyData.eqv, PyData.eqvAll, ifc]
theorem eq_nil0 : eqS (.list []) (.list []) = some true := eq_ints0 []
def gOf : Option Mx.Ties → PyData
  | none => .list []
  | some ts => .list [.tuple (ts.map tD)]
def errOf : Option Mx.Ties → PyData → PyData
  | none => tieErr
  | some ts => colD ts
theorem w_bools' (m : Nat) (B : Nat) (hB : 2 ≤ B) (k : Nat) (hm : k + 2 ≤ m) (x : PyData) (b : Bg) (h1 : gdB B x = true) (h2 : x.depth ≤ k) (h3 : x.bulk ≤ 1000000) : wR (run tab m "_law_bools" [.d x] b) fun p => ∃ y, p = (.d y, b) ∧ gdB B y = true ∧ y.bulk ≤ x.bulk ∧ y.depth ≤ x.depth := by
  obtain ⟨n, rfl⟩ : ∃ n, m = n + k + 2 := ⟨m - k - 2, by omega⟩
  exact w_bools n B hB k x b h1 h2 h3
theorem w_judged (n : Nat) (g : Option Mx.Ties) (hg : ∀ ts, g = some ts → Mx.Vd ts ∧ ts.length ≤ 64) (some' : List PyData) (first : List PyData) (rest : List PyData) (hs : some' = .tuple first :: rest) (many : Nat) (hm : many ≤ 100) (B N k : Nat) (hB : 10 ^ 40 ≤ B) (hB2 : B + 128 ≤ 10 ^ 50) (hN : 4 * N + 300 ≤ 200000) (hk : k ≤ 10) (hsl : some'.length ≤ 1000)
    (hall : ∀ d ∈ some', GD B N k d) (b : Bg) (hb : BgOk b) (K : R × Bg → Prop) (hK : ∀ b', BgOk b' → K (.d (.bool true), b')) : wR (run tab (n + 20) "_law_judged" [.bag, .d (gOf g), .d (.list some'), .d (.int (many : Nat))] b) K := by
  rw [wRun f__law_judged]
  have h0 : GD B N k (.tuple first) := hall _ (by rw [hs]; simp)
  have hfl := h0.ofT.1.len
  have hsl2 : some'.length = rest.length + 1 := by rw [hs]; rfl
  have up : ∀ {d}, GD B N k d → GD (B + 128) (4 * N + 300) (k + 8) d := fun h => h.mono (by omega) (by omega) (by omega)
  simp_arith [d__law_judged]
  rw [show atI some' 0 = some (.tuple first) by rw [hs, at0]]
  simp_arith
  refine wR_mono (w_bools' (n + 19) B (by omega) k (by omega) (.tuple first) b h0.gd h0.dep (by have := h0.bulk; omega)) ?_
  rintro _ ⟨y, rfl, y1, y2, y3⟩
  simp_arith
  rw [show atI some' 0 = some (.tuple first) by rw [hs, at0]]
  simp_arith [List.length_append]
  refine ⟨by omega, ?_⟩
  have gy : GD (B + 128) (4 * N + 300) (k + 8) y := up ⟨y1, Nat.le_trans y2 h0.bulk, Nat.le_trans y3 h0.dep⟩
  have gl : GD (B + 128) (4 * N + 300) (k + 8) (.list first) := (h0.ofT.1.lst).mono (by omega) (by omega) (by omega)
  have gn : GD (B + 128) (4 * N + 300) (k + 8) .none := ⟨by simp [gdB], by simp [PyData.bulk], by simp [PyData.depth]⟩
  have hstart : ∀ d ∈ some' ++ [y, .list first, .none], GD (B + 128) (4 * N + 300) (k + 8) d := by
    intro d hd
    simp only [List.mem_append, List.mem_cons, List.not_mem_nil, or_false] at hd
    rcases hd with hd | rfl | rfl | rfl
    · exact up (hall d hd)
    · exact gy
    · exact gl
    · exact gn
  refine wS_mid (fun z => ∃ s5 s6 rows b', z = ⟨[.bag, .val (gOf g), .val (.list some'), .val (.int (many : Nat)), .own rows, s5, s6, .no, .no, .no], b'⟩ ∧ setOk s5 = true ∧ setOk s6 = true ∧ BgOk b' ∧ rows.length ≤ 2000 ∧ ∀ d ∈ rows, GD (B + 128) (4 * N + 300) (k + 8) d) ?_ ?_
  · refine wS_for (List.range many) nD (fun done z => ∃ s5 s6 rows b', z = ⟨[.bag, .val (gOf g), .val (.list some'), .val (.int (many : Nat)), .own rows, s5, s6, .no, .no, .no], b'⟩ ∧ setOk s5 = true ∧ setOk s6 = true ∧ BgOk b' ∧ rows.length ≤ 1003 + done.length ∧ ∀ d ∈ rows, GD (B + 128) (4 * N + 300) (k + 8) d) ?_
    simp_arith [okI_nat (show many ≤ 1000000 by omega), rg_nat]
    refine ⟨⟨_, _, _, _, rfl, rfl, rfl, hb, by simp; omega, hstart⟩, ?_, ?_⟩
    · rintro done x rest' zc hx ⟨s5, s6, rows, b', rfl, h5, h6, hb', hrl, hr⟩
      have hdl : done.length < many := by have := congrArg List.length hx; simp at this; omega
      simp_arith [h5, h6, nD_eq]
      have hp : (0 : Int) < (some'.length : Int) := by omega
      have i1 := Int.emod_nonneg (x : Int) (show (some'.length : Int) ≠ 0 by omega)
      have i2 := Int.emod_lt_of_pos (x : Int) hp
      simp_arith [hp, decide_true, atI_int PyData.none i1 i2]
      have hm := hall _ (Mx.getD_mem (l := some') (d := PyData.none) (i := ((x : Int) % (some'.length : Int)).toNat) (by omega))
      refine w_other (n + 19 - 8) 3 B N k _ b' hm hB (by omega) (by omega) hb' _ fun v b1 hv hb1 => ?_
      simp_arith [h6]
      refine w_draw (n + 18) 3 b1 (by omega) (by omega) hb1 _ fun r b2 hr2 hb2 => ?_
      simp_arith [nD_eq]
      have fin : ∀ w b3, BgOk b3 → GD (B + 128) (4 * N + 300) (k + 8) w → rows.length < 16777216 ∧ ∃ s5 s6 rows' b'', (⟨[.bag, .val (gOf g), .val (.list some'), .val (.int (many : Nat)), .own (rows ++ [w]), .val (.int (x : Int)), .val v, .no, .no, .no], b3⟩ : Z) = ⟨[.bag, .val (gOf g), .val (.list some'), .val (.int (many : Nat)), .own rows', s5, s6, .no, .no, .no], b''⟩ ∧ setOk s5 = true ∧ setOk s6 = true ∧ BgOk b'' ∧ rows'.length ≤ 1003 + (done ++ [x]).length ∧ ∀ d ∈ rows', GD (B + 128) (4 * N + 300) (k + 8) d := by
        intro w b3 hb3 hw
        refine ⟨by omega, _, _, _, _, rfl, rfl, rfl, hb3, by simp; omega, ?_⟩
        intro d hd
        rcases List.mem_append.mp hd with hd | hd
        · exact hr d hd
        · simp at hd; rw [hd]; exact hw
      refine brd (fun q => ?_) fun q => ?_
      · simp_arith
        exact fin v b2 hb2 (hv.mono (by omega) (by omega) (by omega))
      · simp_arith
        refine w_other (n + 19 - 8) 3 (B + 64) (2 * N + 100) (k + 4) _ b2 hv (by omega) (by omega) (by omega) hb2 _ fun w b3 hw hb3 => ?_
        simp_arith
        exact fin w b3 hb3 (hw.mono (by omega) (by omega) (by omega))
    · rintro ze ⟨s5, s6, rows, b', rfl, h5, h6, hb', hrl, hr⟩
      simp_arith
      rw [List.length_range] at hrl
      exact ⟨_, _, _, _, rfl, h5, h6, hb', by omega, hr⟩
  · rintro z ⟨s5, s6, rows, b', rfl, h5, h6, hb', hrl, hr⟩
    simp_arith
    rw [show atI some' 0 = some (.tuple first) by rw [hs, at0]]
    simp_arith
    refine ⟨by omega, ?_⟩
    have hr' : ∀ d ∈ rows ++ [.tuple first], GD (B + 128) (4 * N + 300) (k + 8) d := by
      intro d hd
      rcases List.mem_append.mp hd with hd | hd
      · exact hr d hd
      · simp at hd; rw [hd]; exact up h0
    refine wS_enum (rows ++ [.tuple first]) id (fun done z => ∃ s5 s6 s7 s8 s9, z = ⟨[.bag, .val (gOf g), .val (.list some'), .val (.int (many : Nat)), .lck (rows ++ [.tuple first]), s5, s6, s7, s8, s9], b'⟩ ∧ setOk s5 = true ∧ setOk s6 = true ∧ setOk s7 = true ∧ setOk s8 = true ∧ setOk s9 = true) ?_
    simp_arith [List.map_id]
    refine ⟨⟨_, _, _, _, _, rfl, h5, h6, rfl, rfl, rfl⟩, ?_, ?_⟩
    · rintro done v rest' zc hx ⟨s5, s6, s7, s8, s9, rfl, h5, h6, h7, h8, h9⟩
      have hv := hr' v (by rw [hx]; simp)
      have hgd := hv.gdT (by omega)
      have hrep := hv.show (by omega) (by omega) (by omega)
      have e1 : ∀ n b, run tab (n + 4) "ties_error" [.d v] b = some (.d (tieErr v), b) := fun n b => r_ties_error n v b hgd
      have e2 : ∀ n b, run tab (n + 2) "_law_due_ties" [.d v] b = some (.d (tieErr v), b) := fun n b => r_due_ties n v b hgd
      have e5 : ∀ n b, run tab (n + 2) "_law_same" [.d (tieErr v), .d (tieErr v)] b = some (.d (.bool true), b) := fun n b => r_same b n 1 _ (tieErr_pl v).1 (tieErr_pl v).2
      rcases g with _ | ts
      · simp_arith [h5, h6, h7, h8, h9, id, hrep, gOf, eq_nil0, e1, e2, nD_eq]
        refine ⟨by decide, brd (fun q => ?_) fun q => ?_⟩
        · simp_arith [h5, h6, h7, h8, h9, id, hrep, gOf, eq_nil0, e1, e2, e5, hrep]
          exact ⟨_, _, _, _, _, rfl, rfl, rfl, rfl, rfl, rfl⟩
        · simp_arith [h5, h6, h7, h8, h9, id, hrep, gOf, eq_nil0, e1, e2, e5, hrep]
          exact ⟨_, _, _, _, _, rfl, rfl, rfl, rfl, rfl, rfl⟩
      · obtain ⟨g1, g2⟩ := hg ts rfl
        have e3 : ∀ n b, run tab (n + 2) "colours_error" [.d (.tuple (ts.map tD)), .d v] b = some (.d (colD ts v), b) := fun n b => r_colours_error n ts g1 g2 v b hgd
        have e4 : ∀ n b, run tab (n + 2) "_law_due_colours" [.d (.tuple (ts.map tD)), .d v] b = some (.d (colD ts v), b) := fun n b => r_due_colours n ts g1 g2 v b hgd
        have e6 : ∀ n b, run tab (n + 2) "_law_same" [.d (colD ts v), .d (colD ts v)] b = some (.d (.bool true), b) := fun n b => r_same b n 1 _ (colD_pl ts v).1 (colD_pl ts v).2
        simp_arith [h5, h6, h7, h8, h9, id, hrep, gOf, eq_g, at0, e3, e4, nD_eq]
        refine ⟨by decide, brd (fun q => ?_) fun q => ?_⟩
        · simp_arith [h5, h6, h7, h8, h9, id, hrep, gOf, eq_g, at0, e3, e4, e6, hrep]
          exact ⟨_, _, _, _, _, rfl, rfl, rfl, rfl, rfl, rfl⟩
        · simp_arith [h5, h6, h7, h8, h9, id, hrep, gOf, eq_g, at0, e3, e4, e6, hrep]
          exact ⟨_, _, _, _, _, rfl, rfl, rfl, rfl, rfl, rfl⟩
    · rintro ze ⟨s5, s6, s7, s8, s9, rfl, h5, h6, h7, h8, h9⟩
      simp_arith
      exact hK _ hb'
end k83_whole_forests_towers

namespace k83_whole_forests_towers
open PySem PySem.Spec L2 Mz
/-! ### facts -/
theorem free_head {near : List Nat} {m : Nat} (h : near.length < m) : atI (((List.range m).filter fun k => decide (k ∉ near)).map nD) 0 = some (nD (Mx.mexL near m)) := by
  obtain ⟨_, _, _, rest, e⟩ := Mx.mexL_spec h
  rw [e]
  simpa using atI_nat (xs := (Mx.mexL near m :: rest).map nD) (j := 0) (nD 0) (by simp)
theorem cnt_nat (l : List Nat) (k : Nat) : (l.map fun j : Nat => (j : Int)).count (k : Int) = l.count k := by
  induction l with
  | nil => rfl
  | cons a r ih =>
    rw [List.map_cons, List.count_cons, List.count_cons, ih]
    congr 1
    by_cases h : a = k
    · simp [h]
    · simp [h]; omega
def factD (ts : Mx.Ties) (t : Nat) : List PyData := [nD t, nD (Mx.card (Mx.partC ts)), .tuple ((Mx.leastC ts).map nD), .tuple ((Mx.twoC ts).map PyData.int), .list ((Mx.joinC ts).map nD)]
theorem least_eq (done : Mx.Ties) (x : List Nat) : (Mx.leastC done).map nD ++ [PyData.int ((Mx.mexL (Mx.gJ (Mx.leastC done) x) (x.length + 1) : Nat) : Int)] = (Mx.leastC (done ++ [x])).map nD := by
  rw [Mx.leastC_snoc]; simp [Mx.leastRow, nD]
theorem join_eq (done : Mx.Ties) (x : List Nat) : (Mx.joinC done).map nD ++ [PyData.int ((List.count done.length (Mx.partC (done ++ [x])) : Nat) : Int)] = (Mx.joinC (done ++ [x])).map nD := by
  rw [Mx.joinC_snoc, Mx.partC_snoc]; simp [nD]
theorem w_facts (n : Nat) (ts : Mx.Ties) (hv : Mx.Vd ts) (hl : ts.length ≤ 64) (b : Bg) (K : R × Bg → Prop) (hK : ∀ t, Mx.Tw ts.length ts t → K (.nw (factD ts t), b)) : wR (run tab (n + 1) "_law_facts" [.d (.tuple (ts.map tD))] b) K := by
  rw [wRun f__law_facts]
  simp_arith [d__law_facts, List.length_map]
  refine wS_enum ts tD (fun done z => ∃ t s6 s7 s8 s9 s10 s11 s12 s13 s14 s15, Mx.Tw ts.length done t ∧ z = ⟨[.val (.tuple (ts.map tD)), .own ((Mx.partC done).map nD), .own ((Mx.leastC done).map nD), .own ((Mx.twoC done).map PyData.int), .own ((Mx.joinC done).map nD), .val (nD t), s6, s7, s8, s9, s10, s11, s12, s13, s14, s15], b⟩ ∧ setOk s6 = true ∧ setOk s7 = true ∧ setOk s8 = true ∧ setOk s9 = true ∧ setOk s10 = true ∧ setOk s11 = true ∧ quietB s12 = true ∧ quietB s13 = true ∧ quietB s14 = true ∧ quietB s15 = true) ?_
  simp_arith
  refine ⟨⟨_, _, _, _, _, _, _, _, _, _, _, .inl ⟨rfl, Mx.Fo.nil⟩, rfl, rfl, rfl, rfl, rfl, rfl, rfl, rfl, rfl, rfl, rfl⟩, ?_, ?_⟩
  · rintro done x rest zc hx ⟨t, s6, s7, s8, s9, s10, s11, s12, s13, s14, s15, htw, rfl, h6, h7, h8, h9, h10, h11, h12, h13, h14, h15⟩
    have hlt := lens hx
    have hr : Mx.RowOk done.length x := hv done x rest hx
    have hxl := hr.len
    have hpl := Mx.partC_len done
    have hll := Mx.leastC_len done
    have htl := Mx.twoC_len done
    have hjl := Mx.joinC_len done
    have hml : (Mx.gJ (Mx.partC done) x).length = x.length := by simp [Mx.gJ]
    have hnl : (Mx.gJ (Mx.leastC done) x).length = x.length := by simp [Mx.gJ]
    simp_arith [h6, h7, h8, h9, h10, h11, h12, h13, h14, h15, tD]
    refine wE_map x nD (fun j => nD ((Mx.partC done).getD j 0)) ?_
    simp_arith [h6, h7, h8, h9, h10, h11, h12, h13, h14, h15]
    refine ⟨by omega, ?_, ?_⟩
    · intro j hj
      have := hr.2 j hj
      simp_arith [nD_eq, at_map 0 (show j < (Mx.partC done).length by omega)]
    rw [met_eq]
    refine wE_map x nD (fun j => nD ((Mx.leastC done).getD j 0)) ?_
    simp_arith only [h6, h7, h8, h9, h10, h11, h12, h13, h14, h15]
    refine ⟨by omega, ?_, ?_⟩
    · intro j hj
      have := hr.2 j hj
      simp_arith [nD_eq, at_map 0 (show j < (Mx.leastC done).length by omega)]
    rw [met_eq]
    refine wS_mid (fun z => ∃ t', Mx.Tw ts.length (done ++ [x]) t' ∧ z = ⟨[.val (.tuple (ts.map tD)), .own ((Mx.partC done).map nD), .own ((Mx.leastC done).map nD), .own ((Mx.twoC done).map PyData.int), .own ((Mx.joinC done).map nD), .val (nD t'), .val (nD done.length), .val (.tuple (x.map nD)), s8, s9, .own ((Mx.gJ (Mx.partC done) x).map nD), .own ((Mx.gJ (Mx.leastC done) x).map nD), s12, s13, s14, s15], b⟩) ?_ ?_
    · have hci := Mx.card_eq_iff (Mx.gJ (Mx.partC done) x)
      have hcl := Mx.card_le (Mx.gJ (Mx.partC done) x)
      have hts := htw.step (x := x) hlt
      simp_arith [nD_eq, List.length_map]
      refine brd (fun q1 => ?_) fun q1 => ?_
      · simp_arith [ints_nat, dst_nat, List.length_map]
        refine ⟨by omega, brd (fun q2 => ?_) fun q2 => ?_⟩
        · simp_arith
          rw [if_pos ⟨by omega, fun z => by have := hci.mpr z; omega⟩] at hts
          exact ⟨_, hts, rfl⟩
        · simp_arith
          rw [if_neg (fun z => z.2 (hci.mp (by omega)))] at hts
          exact ⟨_, hts, rfl⟩
      · simp_arith
        rw [if_neg (fun z => by omega)] at hts
        exact ⟨_, hts, rfl⟩
    · rintro z ⟨t', ht', rfl⟩
      simp_arith
      refine wE_comp (List.range (x.length + 1)) nD (fun k => decide (k ∉ Mx.gJ (Mx.leastC done) x)) nD ?_
      simp_arith [h8, h9, h12, h13, h14, h15, List.length_map, rg1_nat (n := x.length), okI_in (i := (x.length : Int) + 1) (by omega) (by omega), List.length_range]
      refine ⟨by omega, ?_, ?_⟩
      · intro k hk
        simp_arith [nD_eq, in_nats]
        by_cases hk : k ∈ Mx.gJ (Mx.leastC done) x
        · simp_arith [hk, decide_true, decide_false, not_true]
        · simp_arith [hk, decide_true, decide_false, not_false_eq_true]
      simp_arith [free_head (near := Mx.gJ (Mx.leastC done) x) (m := x.length + 1) (by omega), List.length_map]
      refine ⟨by omega, ?_⟩
      refine wE_comp x nD (fun j => decide ((Mx.twoC done).getD j 0 = 0)) (fun j => nD ((Mx.partC done).getD j 0)) ?_
      simp_arith [h8, h9, h12, h13, h14, h15]
      refine ⟨by omega, ?_, ?_⟩
      · intro j hj
        have := hr.2 j hj
        simp_arith [nD_eq, at_map (0 : Int) (show j < (Mx.twoC done).length by omega), at_map 0 (show j < (Mx.partC done).length by omega)]
        refine brd (fun k => ?_) fun k => ?_
        · simp_arith [k, at_map 0 (show j < (Mx.partC done).length by omega)]
          rfl
        · simp_arith [k]
      have htu : (List.map (fun j => nD ((Mx.partC done).getD j 0)) (x.filter fun j => decide ((Mx.twoC done).getD j 0 = 0))) = ((x.filter fun j => decide ((Mx.twoC done).getD j 0 = 0)).map fun j => (Mx.partC done).getD j 0).map nD := by simp
      rw [htu]
      refine wE_map ((Mx.twoC done).zip (Mx.partC done)) (fun q => .tuple [.int q.1, nD q.2]) (fun q => .int (if q.2 ∈ (x.filter fun j => decide ((Mx.twoC done).getD j 0 = 0)).map (fun j => (Mx.partC done).getD j 0) then 1 - q.1 else q.1)) ?_
      simp_arith [h8, h9, h12, h13, h14, h15, zip_map]
      refine ⟨by rw [List.length_zip]; omega, ?_, ?_⟩
      · intro q hq
        simp_arith [nD_eq, in_nats]
        refine brd (fun k => ?_) fun k => ?_
        · simp_arith [k]
        · simp_arith [k]
      simp_arith [List.length_map, List.length_zip, hpl, htl, Nat.min_self]
      refine ⟨by omega, ?_⟩
      rw [two_eq]
      refine wE_map (Mx.partC done) nD (fun q => nD (if q ∈ Mx.gJ (Mx.partC done) x then done.length else q)) ?_
      simp_arith [h8, h9, h12, h13, h14, h15]
      refine ⟨by omega, ?_, ?_⟩
      · intro q hq
        simp_arith [nD_eq, in_nats]
        refine brd (fun k => ?_) fun k => ?_
        · simp_arith [k]
        · simp_arith [k]
      simp_arith [List.length_map, hpl, List.length_append]
      rw [part_eq]
      simp_arith [nD_eq, ints_nat, cnt_nat, List.length_map, hjl]
      refine ⟨by omega, by omega, ?_⟩
      rw [least_eq, join_eq]
      exact ⟨_, _, _, _, _, _, _, _, _, _, _, ht', rfl, rfl, rfl, rfl, rfl, rfl, rfl, h12, h13, h14, h15⟩
  · rintro ze ⟨t, s6, s7, s8, s9, s10, s11, s12, s13, s14, s15, htw, rfl, h6, h7, h8, h9, h10, h11, h12, h13, h14, h15⟩
    have := Mx.partC_len ts
    simp_arith [ints_nat, dst_nat, List.length_map]
    exact ⟨by omega, hK t htw⟩
end k83_whole_forests_towers

namespace k83_whole_forests_towers
open PySem PySem.Spec L2 Mz
/-! ### ties that are made -/
theorem Vd_cons {l : Mx.Ties} {x : List Nat} (h : Mx.Vd l) (k : Mx.RowOk l.length x) : Mx.Vd (l ++ [x]) := h.snoc k
def vdB (ts : Mx.Ties) : Bool := (List.range ts.length).all fun i => ((ts.getD i []).all fun j => decide (j < i)) && ((ts.getD i []).zip (ts.getD i []).tail).all fun p => decide (p.1 < p.2)
theorem pw_of : ∀ {l : List Nat}, ((l.zip l.tail).all fun p => decide (p.1 < p.2)) = true → l.Pairwise (· < ·)
  | [], _ => List.Pairwise.nil
  | [a], _ => by simp
  | a :: c :: r, h => by
    simp only [List.tail_cons, List.zip_cons_cons, List.all_cons, Bool.and_eq_true, decide_eq_true_eq] at h
    have ih := pw_of (l := c :: r) h.2
    refine List.pairwise_cons.mpr ⟨fun y hy => ?_, ih⟩
    rcases List.mem_cons.mp hy with rfl | hy
    · exact h.1
    · have := (List.pairwise_cons.mp ih).1 y hy
      omega
theorem vd_of {ts : Mx.Ties} (h : vdB ts = true) : Mx.Vd ts := by
  intro l x r e
  have hlt : l.length < ts.length := by rw [e]; simp
  have := List.all_eq_true.mp h l.length (List.mem_range.mpr hlt)
  have hx : ts.getD l.length [] = x := by rw [e]; exact Mx.getD_app_eq rfl
  rw [hx, Bool.and_eq_true] at this
  exact ⟨pw_of this.2, fun j hj => by simpa using List.all_eq_true.mp this.1 j hj⟩
theorem towF_vd : ∀ c ≤ 6, Mx.Vd (towF c) ∧ (towF c).length ≤ 64 := by
  intro c hc
  have : c = 0 ∨ c = 1 ∨ c = 2 ∨ c = 3 ∨ c = 4 ∨ c = 5 ∨ c = 6 := by omega
  rcases this with h | h | h | h | h | h | h <;> subst h <;> exact ⟨vd_of (by decide +kernel), by decide +kernel⟩
/-- what is made: ties -/
def TyK (K : R × Bg → Prop) : Prop := ∀ ts b', Mx.Vd ts → ts.length ≤ 64 → BgOk b' → K (.nw (ts.map tD), b')
theorem nil_tD : PyData.tuple [] = tD [] := rfl
theorem sorted_ok {l : List Nat} {m : Nat} (hn : l.Nodup) (hm : ∀ j ∈ l, j < m) : ∃ r, sortS [.list (l.map nD)] = some (.nw (r.map nD)) ∧ Mx.RowOk m r := by
  have e : sortS [.list (l.map nD)] = some (.nw (((l.map fun j : Nat => (j : Int)).mergeSort).map PyData.int)) := by
    show (intsD (l.map nD)).map _ = _
    rw [ints_nat]; rfl
  have hp := List.mergeSort_perm (l.map fun j : Nat => (j : Int)) (fun a b => decide (a ≤ b))
  have hs := List.pairwise_mergeSort (le := fun (a b : Int) => decide (a ≤ b)) (fun a b c h1 h2 => by simp at *; omega) (fun a b => by simp; omega) (l.map fun j : Nat => (j : Int))
  generalize hq : (l.map fun j : Nat => (j : Int)).mergeSort (fun a b => decide (a ≤ b)) = s at hp hs
  have hq' : (l.map fun j : Nat => (j : Int)).mergeSort = s := hq
  rw [hq'] at e
  have hmem : ∀ x ∈ s, ∃ j ∈ l, x = (j : Int) := fun x hx => by
    obtain ⟨j, hj, rfl⟩ := List.mem_map.mp (hp.mem_iff.mp hx)
    exact ⟨j, hj, rfl⟩
  have hnd : s.Nodup := hp.nodup_iff.mpr (List.nodup_iff_pairwise_ne.mpr (by
    rw [List.pairwise_map]
    exact (List.nodup_iff_pairwise_ne.mp hn).imp fun {a b} h z => h (by omega)))
  refine ⟨s.map Int.toNat, ?_, ?_, ?_⟩
  · rw [e, List.map_map]
    congr 2
    apply List.map_congr_left
    intro x hx
    obtain ⟨j, _, rfl⟩ := hmem x hx
    rfl
  · rw [List.pairwise_map]
    have := List.nodup_iff_pairwise_ne.mp hnd
    refine (hs.and this).imp_of_mem ?_
    intro a c ha hc h
    obtain ⟨j, _, rfl⟩ := hmem a ha
    obtain ⟨k, _, rfl⟩ := hmem c hc
    have h1 := h.1
    have h2 := h.2
    simp only [decide_eq_true_eq] at h1
    simp only [Int.toNat_natCast]
    omega
  · intro j hj
    obtain ⟨x, hx, rfl⟩ := List.mem_map.mp hj
    obtain ⟨k, hk, rfl⟩ := hmem x hx
    exact hm k hk
theorem range_split {m x : Nat} {done rest : List Nat} (h : List.range m = done ++ x :: rest) : x = done.length := by
  have e : (List.range m)[done.length]? = some x := by rw [h]; simp
  rw [List.getElem?_range (by have := congrArg List.length h; simp at this; omega)] at e
  cases e; rfl
theorem rg_two (a c : Nat) : rgD (a : Int) (c : Int) = (List.range (c - a)).map fun i => nD (a + i) := by
  unfold rgD
  rw [show ((c : Int) - (a : Int)).toNat = c - a by omega]
  apply List.map_congr_left
  intro i _
  show PyData.int _ = .int _
  congr 1
theorem tD_snoc (ts : Mx.Ties) (row : List Nat) : ts.map tD ++ [tD row] = (ts ++ [row]).map tD := by simp
theorem w_ring (n : Nat) (many size : Nat) (hs : 3 ≤ size) (hsm : size ≤ many) (hm : many ≤ 64) (b : Bg) (hb : BgOk b) (K : R × Bg → Prop) (hK : ∀ ts b', Mx.Vd ts → ts.length = many → BgOk b' → (many = size → ts = (((List.range size).map fun i => if i = 0 then [] else [i - 1]).set (size - 1) [0, size - 2]) ∧ b' = b) → K (.nw (ts.map tD), b')) : wR (run tab (n + 3) "_law_ring" [.bag, .d (.int (many : Nat)), .d (.int (size : Nat))] b) K := by
  rw [wRun f__law_ring]
  simp_arith [d__law_ring]
  refine wE_map (List.range size) nD (fun i => tD (if i = 0 then [] else [i - 1])) ?_
  simp_arith [okI_nat (show size ≤ 1000000 by omega), rg_nat, List.length_range]
  refine ⟨by omega, ?_, ?_⟩
  · intro i hi
    simp_arith [nD_eq]
    by_cases h : i = 0
    · subst h
      simp_arith [Int.natCast_zero, decide_true]
      rfl
    · simp_arith [h, show ¬ (i : Int) = 0 by omega, decide_false]
      rw [show (i : Int) - 1 = ((i - 1 : Nat) : Int) by omega]; rfl
  simp_arith [List.length_map, List.length_range]
  rw [show ixN size (-1) = some (size - 1) by
    unfold ixN
    rw [if_neg (by omega), if_pos (by omega)]
    congr 1; omega]
  simp_arith
  have hset : ((List.range size).map fun i => tD (if i = 0 then [] else [i - 1])).set (size - 1) (.tuple [.int 0, .int ((size : Int) - 2)]) = (((List.range size).map fun i => if i = 0 then [] else [i - 1]).set (size - 1) [0, size - 2]).map tD := by
    rw [List.map_set, List.map_map]
    congr 1
    show PyData.tuple [.int 0, .int ((size : Int) - 2)] = .tuple [nD 0, nD (size - 2)]
    rw [nD_eq, nD_eq]
    congr 3
    rw [show ((size - 2 : Nat) : Int) = (size : Int) - 2 by omega]
  rw [hset]
  have hv0 : Mx.Vd (((List.range size).map fun i => if i = 0 then [] else [i - 1]).set (size - 1) [0, size - 2]) := by
    intro l x r e
    have hlt : l.length < size := by have := congrArg List.length e; simp at this; omega
    have hx : (((List.range size).map fun i => if i = 0 then [] else [i - 1]).set (size - 1) [0, size - 2])[l.length]? = some x := by rw [e]; simp
    rw [List.getElem?_set] at hx
    by_cases h : size - 1 = l.length
    · rw [if_pos h] at hx
      simp only [List.length_map, List.length_range] at hx
      rw [if_pos (show size - 1 < size by omega)] at hx
      cases hx
      refine ⟨by simp; omega, ?_⟩
      intro j hj
      simp at hj; omega
    · rw [if_neg h] at hx
      simp [hlt] at hx
      subst hx
      by_cases h0 : l.length = 0
      · rw [if_pos (List.length_eq_zero_iff.mp h0)]
        exact ⟨List.Pairwise.nil, by simp⟩
      · rw [if_neg (fun z => h0 (List.length_eq_zero_iff.mpr z))]
        exact ⟨by simp, by intro j hj; simp at hj; omega⟩
  generalize hr0 : (((List.range size).map fun i => if i = 0 then [] else [i - 1]).set (size - 1) [0, size - 2]) = ring0 at *
  have hl0 : ring0.length = size := by rw [← hr0]; simp
  refine wS_for (List.range (many - size)) (fun i => nD (size + i)) (fun done z => ∃ s4 s5 ts b', z = ⟨[.bag, .val (nD many), .val (nD size), .own (ts.map tD), s4, s5], b'⟩ ∧ setOk s4 = true ∧ setOk s5 = true ∧ BgOk b' ∧ Mx.Vd ts ∧ ts.length = size + done.length ∧ (done = [] → ts = ring0 ∧ b' = b)) ?_
  simp_arith [okI_nat (show size ≤ 1000000 by omega), okI_nat (show many ≤ 1000000 by omega), Bool.and_self]
  refine ⟨rg_two size many, ⟨_, _, ring0, _, rfl, rfl, rfl, hb, hv0, by simp [hl0], fun _ => ⟨rfl, rfl⟩⟩, ?_, ?_⟩
  · rintro done x rest zc hx ⟨s4, s5, ts, b', rfl, h4, h5, hb', hv, hl, _⟩
    have hxd := range_split hx
    have hdl : done.length < many - size := by have := congrArg List.length hx; simp at this; omega
    simp_arith [h4, h5, nD_eq]
    refine w_draw (n + 1) _ b' (by omega) (by omega) hb' _ fun r b1 hr hb1 => ?_
    simp_arith [h5, nD_eq]
    refine w_draw (n + 1) 4 b1 (by omega) (by omega) hb1 _ fun q b2 hq hb2 => ?_
    simp_arith [nD_eq]
    have hrow : ∃ row, (atI [PyData.tuple [], .tuple [.int (r : Int)], .tuple [.int 0, .int (((size + x : Nat) : Int) - 1)], .tuple [.int (r : Int)]] (q : Int)) = some (tD row) ∧ Mx.RowOk (size + x) row := by
      have hq' : q = 0 ∨ q = 1 ∨ q = 2 ∨ q = 3 := by omega
      have r1 : Mx.RowOk (size + x) [r] := ⟨by simp, by intro j hj; simp at hj; omega⟩
      rcases hq' with rfl | rfl | rfl | rfl
      · exact ⟨[], by rw [atI_nat .none (by simp)]; rfl, List.Pairwise.nil, by simp⟩
      · exact ⟨[r], by rw [atI_nat .none (by simp)]; rfl, r1⟩
      · refine ⟨[0, size + x - 1], ?_, by simp; omega, by intro j hj; simp at hj; omega⟩
        rw [atI_nat .none (by simp), show ((size + x : Nat) : Int) - 1 = ((size + x - 1 : Nat) : Int) by omega]; rfl
      · exact ⟨[r], by rw [atI_nat .none (by simp)]; rfl, r1⟩
    obtain ⟨row, hrow, hok⟩ := hrow
    simp_arith [hrow, List.length_map]
    rw [tD_snoc]
    exact ⟨by omega, _, _, ts ++ [row], _, rfl, rfl, rfl, hb2, hv.snoc (by rw [hl, ← hxd]; exact hok), by simp [hl]; omega, fun z => by simp at z⟩
  · rintro ze ⟨s4, s5, ts, b', rfl, h4, h5, hb', hv, hl, hd⟩
    simp_arith
    rw [List.length_range] at hl
    refine hK ts b' hv (by omega) hb' fun e => hd ?_
    rw [e]; simp
theorem w_thick (n : Nat) (many share : Nat) (hm : many ≤ 64) (hs : share ≤ 1) (b : Bg) (hb : BgOk b) (K : R × Bg → Prop) (hK : ∀ ts b', Mx.Vd ts → ts.length = many → BgOk b' → K (.nw (ts.map tD), b')) : wR (run tab (n + 3) "_law_thick" [.bag, .d (.int (many : Nat)), .d (.int (share : Nat))] b) K := by
  rw [wRun f__law_thick]
  simp_arith [d__law_thick]
  refine wE_compI (List.range many) nD (fun done acc z => ∃ (ts : Mx.Ties) (b' : Bg), z = ⟨[.bag, .val (.int (many : Nat)), .val (.int (share : Nat)), .no, .no], b'⟩ ∧ acc = ts.map tD ∧ Mx.Vd ts ∧ ts.length = done.length ∧ BgOk b') ?_
  simp_arith [okI_nat (show many ≤ 1000000 by omega), rg_nat, List.length_range]
  refine ⟨by omega, ⟨[], b, rfl, rfl, Mx.Vd.nil, rfl, hb⟩, ?_, ?_⟩
  · rintro done i rest acc zc hx hacc ⟨ts, b', rfl, rfl, hv, hl, hb'⟩
    have hi := range_split hx
    have hdl : done.length < many := by have := congrArg List.length hx; simp at this; omega
    simp_arith [nD_eq]
    refine wE_compI (List.range i) nD (fun dn acc z => ∃ (row : List Nat) (b' : Bg), z = ⟨[.bag, .val (.int (many : Nat)), .val (.int (share : Nat)), .val (.int (i : Nat)), .no], b'⟩ ∧ acc = row.map nD ∧ row.Sublist dn ∧ BgOk b') ?_
    simp_arith [okI_nat (show i ≤ 1000000 by omega), rg_nat, List.length_range]
    refine ⟨by omega, ⟨[], b', rfl, rfl, List.Sublist.refl _, hb'⟩, ?_, ?_⟩
    · rintro dn j rs acc2 zc hj hacc2 ⟨row, b1, rfl, rfl, hsub, hb1⟩
      simp_arith [nD_eq]
      have yes : ∀ b2, BgOk b2 → ∃ (row' : List Nat) (b' : Bg), (⟨[.bag, .val (.int (many : Nat)), .val (.int (share : Nat)), .val (.int (i : Nat)), .no], b2⟩ : Z) = ⟨[.bag, .val (.int (many : Nat)), .val (.int (share : Nat)), .val (.int (i : Nat)), .no], b'⟩ ∧ row.map nD ++ (some (PyData.int (j : Nat))).toList = row'.map nD ∧ row'.Sublist (dn ++ [j]) ∧ BgOk b' := fun b2 hb2 => ⟨row ++ [j], b2, rfl, by simp [nD], hsub.append (List.Sublist.refl _), hb2⟩
      have no : ∀ b2, BgOk b2 → ∃ (row' : List Nat) (b' : Bg), (⟨[.bag, .val (.int (many : Nat)), .val (.int (share : Nat)), .val (.int (i : Nat)), .no], b2⟩ : Z) = ⟨[.bag, .val (.int (many : Nat)), .val (.int (share : Nat)), .val (.int (i : Nat)), .no], b'⟩ ∧ row.map nD ++ (none : Option PyData).toList = row'.map nD ∧ row'.Sublist (dn ++ [j]) ∧ BgOk b' := fun b2 hb2 => ⟨row, b2, rfl, by simp, hsub.trans (List.sublist_append_left _ _), hb2⟩
      refine brd (fun h => ?_) fun h => ?_
      · simp_arith
        exact yes b1 hb1
      · simp_arith
        refine w_draw (n + 1) _ b1 (by omega) (by omega) hb1 _ fun r b2 hr hb2 => ?_
        simp_arith [nD_eq]
        refine brd (fun h => ?_) fun h => ?_
        · simp_arith
          exact yes b2 hb2
        · simp_arith
          exact no b2 hb2
    · rintro acc2 ze hacc2 ⟨row, b1, rfl, rfl, hsub, hb1⟩
      simp_arith
      have hok : Mx.RowOk i row := ⟨List.pairwise_lt_range.sublist hsub, fun j hj => List.mem_range.mp (hsub.subset hj)⟩
      refine ⟨ts ++ [row], b1, rfl, ?_, hv.snoc (by rw [hl, ← hi]; exact hok), by simp [hl], hb1⟩
      simp [tD]
  · rintro acc ze hacc ⟨ts, b', rfl, rfl, hv, hl, hb'⟩
    simp_arith
    rw [List.length_range] at hl
    exact hK ts b' hv hl hb'
end k83_whole_forests_towers

namespace k83_whole_forests_towers
open PySem PySem.Spec L2 Mz
def KIt {α : Type} (enc : α → PyData) (P : List α → Prop) (I : List α → List α → Z → Prop) (items : List PyData) (lks : List Nat) (z1 : Z) : Prop := ∃ xs : List α, items = xs.map enc ∧ P xs ∧ lks = [] ∧ I xs [] z1
theorem frl_nil (z1 : Z) (f : Fl) : frl z1 [] f = f := by cases f <;> rfl
theorem wS_for2 {it : MI} {t : Tg} {body : MS} {z : Z} {Q : Fl → Prop} {α : Type} (enc : α → PyData) (P : List α → Prop) (I : List α → List α → Z → Prop) (h1 : wI it z (KIt enc P I)) (h2 : ∀ xs, P xs → ForTurn xs enc (I xs) t body Q) (h3 : ∀ xs, P xs → ForExit xs (I xs) Q) : wS (forS it t body) z Q := by
  obtain ⟨⟨items, lks, z1⟩, e, xs, k1, k2, k3, k4⟩ := h1
  simp only at k1 k3 k4
  subst k3
  have hq : (fun f => Q (frl z1 [] f)) = Q := by funext f; rw [frl_nil]
  exact wS_for xs enc (I xs) ⟨_, e, k1, k4, by rw [hq]; exact h2 xs k2, by rw [hq]; exact h3 xs k2⟩
theorem met_eq2 (p row : List Nat) : (row.map fun j => nD (p.getD j 0)) = (Mx.gJ p row).map nD := by simp [Mx.gJ]
theorem sorted_ok2 {l : List Nat} {m : Nat} (hn : l.Nodup) (hm : ∀ j ∈ l, j < m) : ∃ r, ((l.map fun j : Nat => (j : Int)).mergeSort fun a b => decide (a ≤ b)).map PyData.int = r.map nD ∧ Mx.RowOk m r := by
  obtain ⟨r, e, h⟩ := sorted_ok hn hm
  refine ⟨r, ?_, h⟩
  have e2 : sortS [.list (l.map nD)] = some (.nw (((l.map fun j : Nat => (j : Int)).mergeSort fun a b => decide (a ≤ b)).map PyData.int)) := by
    show (intsD (l.map nD)).map _ = _
    rw [ints_nat]; rfl
  rw [e2] at e
  injection e with e
  injection e
theorem w_forest (n : Nat) (many : Nat) (wild : Int) (hm : many ≤ 64) (b : Bg) (hb : BgOk b) (K : R × Bg → Prop) (hK : ∀ ts b', Mx.Vd ts → ts.length = many → BgOk b' → K (.nw (ts.map tD), b')) : wR (run tab (n + 3) "_law_forest" [.bag, .d (.int (many : Nat)), .d (.int wild)] b) K := by
  rw [wRun f__law_forest]
  simp_arith [d__law_forest]
  refine wS_for (List.range many) nD (fun done z => ∃ (i s6 s7 s8 s9 s10 s11 : Sl) (P : List Nat) (ts : Mx.Ties) (b' : Bg), z = ⟨[.bag, .val (.int (many : Nat)), .val (.int wild), i, .own (P.map nD), .own (ts.map tD), s6, s7, s8, s9, s10, s11], b'⟩ ∧ setOk i = true ∧ setOk s6 = true ∧ setOk s7 = true ∧ setOk s8 = true ∧ setOk s9 = true ∧ quietB s10 = true ∧ quietB s11 = true ∧ P.length = done.length ∧ Mx.Vd ts ∧ ts.length = done.length ∧ BgOk b') ?_
  simp_arith [okI_nat (show many ≤ 1000000 by omega), rg_nat, List.length_range]
  refine ⟨⟨_, _, _, _, _, _, _, [], [], _, rfl, rfl, rfl, rfl, rfl, rfl, rfl, rfl, rfl, Mx.Vd.nil, rfl, hb⟩, ?_, ?_⟩
  · rintro done i rest zc hx ⟨s3, s6, s7, s8, s9, s10, s11, P, ts, b', rfl, h3, h6, h7, h8, h9, h10, h11, hP, hv, hl, hb'⟩
    have hi := range_split hx
    have hdl : done.length < many := by have := congrArg List.length hx; simp at this; omega
    simp_arith [h3, h6, h7, h8, h9, h10, h11, nD_eq]
    refine wS_for2 nD (fun xs => ∃ c, xs = List.range c ∧ c ≤ 4 ∧ (i = 0 → c = 0)) (fun _ _ z => ∃ (s7 s8 s9 s10 : Sl) (R' : List Nat) (b' : Bg), z = ⟨[.bag, .val (.int (many : Nat)), .val (.int wild), .val (.int (i : Nat)), .own (P.map nD), .own (ts.map tD), .own (R'.map nD), s7, s8, s9, s10, s11], b'⟩ ∧ setOk s7 = true ∧ setOk s8 = true ∧ setOk s9 = true ∧ quietB s10 = true ∧ R'.Nodup ∧ (∀ j ∈ R', j < i) ∧ BgOk b') ?_ ?_ ?_
    · have start : ∀ (c : Nat) b1, BgOk b1 → c ≤ 4 → (i = 0 → c = 0) → KIt nD (fun xs => ∃ c, xs = List.range c ∧ c ≤ 4 ∧ (i = 0 → c = 0)) (fun _ _ z => ∃ (s7 s8 s9 s10 : Sl) (R' : List Nat) (b' : Bg), z = ⟨[.bag, .val (.int (many : Nat)), .val (.int wild), .val (.int (i : Nat)), .own (P.map nD), .own (ts.map tD), .own (R'.map nD), s7, s8, s9, s10, s11], b'⟩ ∧ setOk s7 = true ∧ setOk s8 = true ∧ setOk s9 = true ∧ quietB s10 = true ∧ R'.Nodup ∧ (∀ j ∈ R', j < i) ∧ BgOk b') (rgD 0 (c : Int)) [] ⟨[.bag, .val (.int (many : Nat)), .val (.int wild), .val (.int (i : Nat)), .own (P.map nD), .own (ts.map tD), .own [], s7, s8, s9, s10, s11], b1⟩ := fun c b1 hb1 hc h0 => ⟨List.range c, rg_nat c, ⟨c, rfl, hc, h0⟩, rfl, _, _, _, _, [], b1, rfl, h7, h8, h9, h10, List.nodup_nil, by simp, hb1⟩
      have other : okI (min (i : Int) 4) = true ∧ KIt nD (fun xs => ∃ c, xs = List.range c ∧ c ≤ 4 ∧ (i = 0 → c = 0)) (fun _ _ z => ∃ (s7 s8 s9 s10 : Sl) (R' : List Nat) (b' : Bg), z = ⟨[.bag, .val (.int (many : Nat)), .val (.int wild), .val (.int (i : Nat)), .own (P.map nD), .own (ts.map tD), .own (R'.map nD), s7, s8, s9, s10, s11], b'⟩ ∧ setOk s7 = true ∧ setOk s8 = true ∧ setOk s9 = true ∧ quietB s10 = true ∧ R'.Nodup ∧ (∀ j ∈ R', j < i) ∧ BgOk b') (rgD 0 (min (i : Int) 4)) [] ⟨[.bag, .val (.int (many : Nat)), .val (.int wild), .val (.int (i : Nat)), .own (P.map nD), .own (ts.map tD), .own [], s7, s8, s9, s10, s11], b'⟩ := by
        have e : min (i : Int) 4 = ((min i 4 : Nat) : Int) := by omega
        rw [e]
        exact ⟨okI_nat (by omega), start _ _ hb' (by omega) (by omega)⟩
      simp_arith
      refine brd (fun q1 => ?_) fun q1 => ?_
      · simp_arith
        by_cases q2 : (i : Int) = wild
        · simp_arith [q2, decide_true]
          simp only [q2] at other
          exact other
        · simp_arith [q2, decide_false]
          refine w_draw (n + 1) 4 b' (by omega) (by omega) hb' _ fun r b1 hr hb1 => ?_
          simp_arith [nD_eq, okI_nat (show r ≤ 1000000 by omega)]
          exact start r b1 hb1 (by omega) (by omega)
      · simp_arith
        exact other
    · rintro _ ⟨c, rfl, hc, hc0⟩ dn k rs zc hk ⟨s7, s8, s9, s10, R', b1, rfl, h7, h8, h9, h10, hnd, hlt, hb1⟩
      have hkd := range_split hk
      have hkl : dn.length < c := by have := congrArg List.length hk; simp at this; omega
      have hipos : 0 < i := by rcases Nat.eq_zero_or_pos i with z | z; exact absurd (hc0 z) (by omega); exact z
      simp_arith! [h7, h8, h9, h10, h11, nD_eq]
      rw [Mz.ws_cons]
      refine wS_mid (fun z => ∃ (jj : Int) (b' : Bg), z = ⟨[.bag, .val (.int (many : Nat)), .val (.int wild), .val (.int (i : Nat)), .own (P.map nD), .own (ts.map tD), .own (R'.map nD), .val (.int (k : Nat)), s8, .val (.int jj), s10, s11], b'⟩ ∧ jj < i ∧ BgOk b') ?_ ?_
      · simp_arith
        refine brd (fun q1 => ?_) fun q1 => ?_
        · simp_arith [h9]
          exact ⟨_, _, rfl, by omega, hb1⟩
        · simp_arith
          refine w_draw (n + 1) 3 b1 (by omega) (by omega) hb1 _ fun r b2 hr hb2 => ?_
          simp_arith [nD_eq]
          refine brd (fun q2 => ?_) fun q2 => ?_
          · simp_arith [h9]
            exact ⟨_, _, rfl, by omega, hb2⟩
          · simp_arith [h9]
            refine w_draw (n + 1) _ b2 (by omega) (by omega) hb2 _ fun r' b3 hr' hb3 => ?_
            simp_arith [nD_eq, h9]
            exact ⟨_, _, rfl, by omega, hb3⟩
      · rintro z ⟨jj, b2, rfl, hjj, hb2⟩
        have skip : ∃ (t7 t8 t9 t10 : Sl) (R'' : List Nat) (b' : Bg), (⟨[.bag, .val (.int (many : Nat)), .val (.int wild), .val (.int (i : Nat)), .own (P.map nD), .own (ts.map tD), .own (R'.map nD), .val (.int (k : Nat)), s8, .val (.int jj), s10, s11], b2⟩ : Z) = ⟨[.bag, .val (.int (many : Nat)), .val (.int wild), .val (.int (i : Nat)), .own (P.map nD), .own (ts.map tD), .own (R''.map nD), t7, t8, t9, t10, s11], b'⟩ ∧ setOk t7 = true ∧ setOk t8 = true ∧ setOk t9 = true ∧ quietB t10 = true ∧ R''.Nodup ∧ (∀ j ∈ R'', j < i) ∧ BgOk b' := ⟨_, _, _, _, R', _, rfl, rfl, h8, rfl, h10, hnd, hlt, hb2⟩
        have push : ∀ J : Nat, J < i → J ∉ R' → ∃ (t7 t8 t9 t10 : Sl) (R'' : List Nat) (b' : Bg), (⟨[.bag, .val (.int (many : Nat)), .val (.int wild), .val (.int (i : Nat)), .own (P.map nD), .own (ts.map tD), .own (R'.map nD ++ [.int (J : Nat)]), .val (.int (k : Nat)), s8, .val (.int (J : Nat)), s10, s11], b2⟩ : Z) = ⟨[.bag, .val (.int (many : Nat)), .val (.int wild), .val (.int (i : Nat)), .own (P.map nD), .own (ts.map tD), .own (R''.map nD), t7, t8, t9, t10, s11], b'⟩ ∧ setOk t7 = true ∧ setOk t8 = true ∧ setOk t9 = true ∧ quietB t10 = true ∧ R''.Nodup ∧ (∀ j ∈ R'', j < i) ∧ BgOk b' := by
          intro J hJ hn
          have e : R'.map nD ++ [.int (J : Nat)] = (R' ++ [J]).map nD := by simp [nD]
          rw [e]
          refine ⟨_, _, _, _, _, _, rfl, rfl, h8, rfl, h10, ?_, ?_, hb2⟩
          · exact List.nodup_append.mpr ⟨hnd, by simp, by intro x hx y hy; simp at hy; subst hy; exact fun z => hn (z ▸ hx)⟩
          · intro j hj
            rcases List.mem_append.mp hj with hj | hj
            · exact hlt j hj
            · simp at hj; omega
        have hRl : R'.length ≤ i := by
          have h2 := Mx.card_sub (l := List.range i) (J := R') fun x hx => List.mem_range.mpr (hlt x hx)
          rw [Mx.card_nodup hnd, Mx.card_nodup List.nodup_range, List.length_range] at h2
          omega
        simp_arith
        refine brd (fun q1 => ?_) fun q1 => ?_
        · obtain ⟨J, rfl⟩ := Int.eq_ofNat_of_zero_le q1
          simp_arith [in_nats]
          by_cases q2 : J ∈ R'
          · simp_arith [q2, decide_true]
            exact skip
          · have hpush := push J (by omega) q2
            simp_arith [q2, decide_false]
            refine brd (fun q3 => ?_) fun q3 => ?_
            · simp_arith [List.length_map]
              exact ⟨by omega, hpush⟩
            · simp_arith [at_map 0 (show J < P.length by omega)]
              refine wE_map R' nD (fun j => nD (P.getD j 0)) ?_
              simp_arith [h10]
              refine ⟨by omega, ?_, ?_⟩
              · intro j hj
                have := hlt j hj
                simp_arith [nD_eq, at_map 0 (show j < P.length by omega)]
              · rw [met_eq2]
                simp_arith [nD_eq, in_nats]
                by_cases q4 : P.getD J 0 ∈ Mx.gJ P R'
                · simp_arith [q4, decide_true]
                  exact skip
                · simp_arith [q4, decide_false, List.length_map]
                  exact ⟨by omega, hpush⟩
        · simp_arith
          exact skip
    · rintro _ ⟨c, rfl, hc, hc0⟩ ze ⟨s7, s8, s9, s10, R', b1, rfl, h7, h8, h9, h10, hnd, hlt, hb1⟩
      have hRl : R'.length ≤ i := by
        have h2 := Mx.card_sub (l := List.range i) (J := R') fun x hx => List.mem_range.mpr (hlt x hx)
        rw [Mx.card_nodup hnd, Mx.card_nodup List.nodup_range, List.length_range] at h2
        omega
      obtain ⟨row, hrow, hok⟩ := sorted_ok2 hnd hlt
      simp_arith [h7, h8, h9, h10, h11]
      refine wE_map R' nD (fun j => nD (P.getD j 0)) ?_
      simp_arith [h7, h8, h9, h10, h11]
      refine ⟨by omega, ?_, ?_⟩
      · intro j hj
        have := hlt j hj
        simp_arith [nD_eq, at_map 0 (show j < P.length by omega)]
      rw [met_eq2]
      refine wE_map P nD (fun q => nD (if q ∈ Mx.gJ P R' then i else q)) ?_
      simp_arith [h7, h8, h9, h10, h11]
      refine ⟨by omega, ?_, ?_⟩
      · intro q hq
        simp_arith [nD_eq, in_nats]
        refine brd (fun k => ?_) fun k => ?_
        · simp_arith [k]
        · simp_arith [k]
      simp_arith [ints_nat, hrow, List.length_map, List.length_append]
      have e1 : P.map (fun q => nD (if q ∈ Mx.gJ P R' then i else q)) ++ [.int (i : Nat)] = (P.map (fun q => if q ∈ Mx.gJ P R' then i else q) ++ [i]).map nD := by simp [nD]
      have e2 : ts.map tD ++ [.tuple (row.map nD)] = (ts ++ [row]).map tD := by simp [tD]
      rw [e1, e2]
      exact ⟨by omega, by omega, _, _, _, _, _, _, _, _, _, _, rfl, rfl, rfl, h7, rfl, h9, h10, h11, by simp [hP], hv.snoc (by rw [hl, ← hi]; exact hok), by simp [hl], hb1⟩
  · rintro ze ⟨s3, s6, s7, s8, s9, s10, s11, P, ts, b', rfl, h3, h6, h7, h8, h9, h10, h11, hP, hv, hl, hb'⟩
    simp_arith
    rw [List.length_range] at hl
    exact hK ts b' hv hl hb'
end k83_whole_forests_towers

namespace k83_whole_forests_towers
open PySem PySem.Spec L2 Mz
def oD : Option Nat → PyData
  | none => .none
  | some i => nD i
/-- each knot is tied to by one other at most -/
def Up (ts : Mx.Ties) : Prop := ∀ i i' j, j ∈ ts.getD i [] → j ∈ ts.getD i' [] → i = i'
def upB (ts : Mx.Ties) : Bool := (List.range ts.length).all fun i => (List.range ts.length).all fun i' => decide (i = i') || (ts.getD i []).all fun j => decide (j ∉ ts.getD i' [])
theorem up_of {ts : Mx.Ties} (h : upB ts = true) : Up ts := by
  intro i i' j h1 h2
  have lt : ∀ {k}, j ∈ ts.getD k [] → k < ts.length := fun {k} hk => by
    rcases Nat.lt_or_ge k ts.length with q | q
    · exact q
    · rw [List.getD_eq_getElem?_getD, List.getElem?_eq_none q] at hk; cases hk
  have := List.all_eq_true.mp (List.all_eq_true.mp h i (List.mem_range.mpr (lt h1))) i' (List.mem_range.mpr (lt h2))
  rw [Bool.or_eq_true] at this
  rcases this with q | q
  · simpa using q
  · have := List.all_eq_true.mp q j h1
    simp only [decide_eq_true_eq] at this
    exact absurd h2 this
theorem vd_row {ts : Mx.Ties} (hv : Mx.Vd ts) (i : Nat) : Mx.RowOk i (ts.getD i []) := by
  rcases Nat.lt_or_ge i ts.length with q | q
  · have e : ts = ts.take i ++ ts.getD i [] :: ts.drop (i + 1) := by
      rw [List.getD_eq_getElem?_getD, List.getElem?_eq_getElem q]
      show ts = ts.take i ++ ts[i] :: ts.drop (i + 1)
      rw [List.getElem_cons_drop, List.take_append_drop]
    have := hv _ _ _ e
    rwa [List.length_take, Nat.min_eq_left (by omega)] at this
  · rw [List.getD_eq_getElem?_getD, List.getElem?_eq_none q]
    exact ⟨List.Pairwise.nil, by simp⟩
theorem getD_set {α : Type} (l : List α) (i j : Nat) (a d : α) (h : i < l.length) : (l.set i a).getD j d = if j = i then a else l.getD j d := by
  simp only [List.getD_eq_getElem?_getD, List.getElem?_set]
  by_cases e : i = j
  · subst e; simp [h]
  · rw [if_neg e, if_neg (fun z => e z.symm)]
structure Kn (ts : Mx.Ties) (proc R : List Nat) (W : List Int) (Pl : List Nat) (out : Mx.Ties) : Prop where
  pn : proc.Nodup
  pl : ∀ i ∈ proc, i < ts.length
  pd : ∀ i ∈ proc, ∀ j ∈ ts.getD i [], j ∈ proc
  rn : R.Nodup
  rm : ∀ i, i ∈ R ↔ i < ts.length ∧ i ∉ proc ∧ ∀ j ∈ ts.getD i [], j ∈ proc
  wl : W.length = ts.length
  wv : ∀ a < ts.length, W.getD a 0 = (((ts.getD a []).countP fun j => decide (j ∉ proc) : Nat) : Int)
  ll : Pl.length = ts.length
  lv : ∀ i ∈ proc, Pl.getD i 0 < proc.length
  li : ∀ i ∈ proc, ∀ j ∈ proc, Pl.getD i 0 = Pl.getD j 0 → i = j
  ov : Mx.Vd out
  ol : out.length = proc.length
theorem Kn.ready {ts : Mx.Ties} {proc R : List Nat} {W : List Int} {Pl : List Nat} {out : Mx.Ties} (h : Kn ts proc R W Pl out) (hv : Mx.Vd ts) (hl : proc.length < ts.length) : R ≠ [] := by
  obtain ⟨c, _, _, h1, h2, h3⟩ := Mx.mex_ex (near := proc) (m := ts.length) hl
  have : c ∈ R := (h.rm c).mpr ⟨h1, h2, fun j hj => h3 j ((vd_row hv c).2 j hj)⟩
  intro z; rw [z] at this; cases this
theorem countP_snoc {l proc : List Nat} {i : Nat} (hn : l.Nodup) (hi : i ∉ proc) : l.countP (fun j => decide (j ∉ proc)) = l.countP (fun j => decide (j ∉ proc ++ [i])) + if i ∈ l then 1 else 0 := by
  induction l with
  | nil => rfl
  | cons a r ih =>
    obtain ⟨h1, h2⟩ := List.nodup_cons.mp hn
    have ih := ih h2
    rw [List.countP_cons, List.countP_cons, ih]
    by_cases e : a = i
    · subst e
      simp [hi, h1]
    · have e' : ¬ i = a := fun z => e z.symm
      simp only [List.mem_cons, e', false_or]
      by_cases q : a ∈ proc
      · simp [q]
      · simp [q, e]; omega
/-- one knot more -/
theorem Kn.step {ts : Mx.Ties} {proc R : List Nat} {W : List Int} {Pl : List Nat} {out : Mx.Ties} (h : Kn ts proc R W Pl out) (hv : Mx.Vd ts) (hu : Up ts) {r : Nat} (hr : r < R.length) {row : List Nat} (hrow : Mx.RowOk proc.length row) {up : Option Nat} (ha : ∀ a, up = some a ↔ a < ts.length ∧ R.getD r 0 ∈ ts.getD a []) :
    (up = none → Kn ts (proc ++ [R.getD r 0]) (R.eraseIdx r) W (Pl.set (R.getD r 0) proc.length) (out ++ [row])) ∧
    ∀ a, up = some a → a < ts.length ∧ (if W.getD a 0 - 1 = 0 then Kn ts (proc ++ [R.getD r 0]) (R.eraseIdx r ++ [a]) (W.set a (W.getD a 0 - 1)) (Pl.set (R.getD r 0) proc.length) (out ++ [row]) else Kn ts (proc ++ [R.getD r 0]) (R.eraseIdx r) (W.set a (W.getD a 0 - 1)) (Pl.set (R.getD r 0) proc.length) (out ++ [row])) := by
  have hiR : R.getD r 0 ∈ R := Mx.getD_mem hr
  generalize hi : R.getD r 0 = i at *
  obtain ⟨i1, i2, i3⟩ := (h.rm i).mp hiR
  have hperm : R.Perm (i :: R.eraseIdx r) := by
    have : R[r] = i := by rw [← hi, List.getD_eq_getElem?_getD, List.getElem?_eq_getElem hr]; rfl
    rw [← this]
    conv => lhs; rw [← List.take_append_drop r R, ← List.getElem_cons_drop (h := hr)]
    rw [List.eraseIdx_eq_take_drop_succ]
    exact List.perm_middle
  have hnd := hperm.nodup_iff.mp h.rn
  obtain ⟨nd1, nd2⟩ := List.nodup_cons.mp hnd
  have mem' : ∀ x, x ∈ R.eraseIdx r ↔ x ∈ R ∧ x ≠ i := fun x => by
    rw [hperm.mem_iff, List.mem_cons]
    constructor
    · intro q
      exact ⟨.inr q, fun z => nd1 (z ▸ q)⟩
    · rintro ⟨q | q, w⟩
      · exact absurd q w
      · exact q
  have pm : ∀ x, x ∈ proc ++ [i] ↔ x ∈ proc ∨ x = i := fun x => by simp
  have self : i ∉ ts.getD i [] := fun z => by have := (vd_row hv i).2 i z; omega
  have lset : ∀ x, (Pl.set i proc.length).getD x 0 = if x = i then proc.length else Pl.getD x 0 := fun x => getD_set Pl i x _ _ (by rw [h.ll]; exact i1)
  have cn : ∀ a, (ts.getD a []).countP (fun j => decide (j ∉ proc)) = (ts.getD a []).countP (fun j => decide (j ∉ proc ++ [i])) + if i ∈ ts.getD a [] then 1 else 0 := fun a => countP_snoc ((vd_row hv a).1.imp fun {x y} h => by omega) i2
  have base : ∀ (R' : List Nat) (W' : List Int), R'.Nodup → (∀ x, x ∈ R' ↔ x < ts.length ∧ x ∉ proc ++ [i] ∧ ∀ j ∈ ts.getD x [], j ∈ proc ++ [i]) → W'.length = ts.length → (∀ a < ts.length, W'.getD a 0 = (((ts.getD a []).countP fun j => decide (j ∉ proc ++ [i]) : Nat) : Int)) → Kn ts (proc ++ [i]) R' W' (Pl.set i proc.length) (out ++ [row]) := fun R' W' h1 h2 h3 h4 => {
    pn := List.nodup_append.mpr ⟨h.pn, by simp, by intro x hx y hy; simp at hy; subst hy; exact fun z => i2 (z ▸ hx)⟩
    pl := fun x hx => ((pm x).mp hx).elim (h.pl x) fun z => z ▸ i1
    pd := fun x hx j hj => by
      rcases (pm x).mp hx with q | q
      · exact (pm j).mpr (.inl (h.pd x q j hj))
      · subst q; exact (pm j).mpr (.inl (i3 j hj))
    rn := h1
    rm := h2
    wl := h3
    wv := h4
    ll := by rw [List.length_set]; exact h.ll
    lv := fun x hx => by
      rw [lset, List.length_append, List.length_cons, List.length_nil]
      split
      · omega
      · rename_i q
        have := h.lv x (((pm x).mp hx).resolve_right q)
        omega
    li := fun x hx y hy e => by
      rw [lset, lset] at e
      by_cases q : x = i
      · by_cases w : y = i
        · rw [q, w]
        · rw [if_pos q, if_neg w] at e
          have := h.lv y (((pm y).mp hy).resolve_right w); omega
      · by_cases w : y = i
        · rw [if_neg q, if_pos w] at e
          have := h.lv x (((pm x).mp hx).resolve_right q); omega
        · rw [if_neg q, if_neg w] at e
          exact h.li x (((pm x).mp hx).resolve_right q) y (((pm y).mp hy).resolve_right w) e
    ov := h.ov.snoc (by rw [h.ol]; exact hrow)
    ol := by simp [h.ol] }
  constructor
  · intro hup
    have none' : ∀ a, i ∉ ts.getD a [] := fun a z => by
      have lt : a < ts.length := by
        rcases Nat.lt_or_ge a ts.length with q | q
        · exact q
        · rw [List.getD_eq_getElem?_getD, List.getElem?_eq_none q] at z; cases z
      have := (ha a).mpr ⟨lt, z⟩
      rw [hup] at this; cases this
    refine base _ _ nd2 (fun x => ?_) h.wl fun a hal => by rw [h.wv a hal, cn a, if_neg (none' a)]; rfl
    rw [mem', h.rm, pm]
    constructor
    · rintro ⟨⟨k1, k2, k3⟩, k4⟩
      exact ⟨k1, fun z => z.elim k2 k4, fun j hj => (pm j).mpr (.inl (k3 j hj))⟩
    · rintro ⟨k1, k2, k3⟩
      refine ⟨⟨k1, fun z => k2 (.inl z), fun j hj => ?_⟩, fun z => k2 (.inr z)⟩
      rcases (pm j).mp (k3 j hj) with q | q
      · exact q
      · subst q; exact absurd hj (none' x)
  · intro a hup
    obtain ⟨a1, a2⟩ := (ha a).mp hup
    refine ⟨a1, ?_⟩
    have only : ∀ x, i ∈ ts.getD x [] → x = a := fun x hx => hu x a i hx a2
    have hWa : W.getD a 0 - 1 = (((ts.getD a []).countP fun j => decide (j ∉ proc ++ [i]) : Nat) : Int) := by rw [h.wv a a1, cn a, if_pos a2]; omega
    have hW : ∀ x < ts.length, (W.set a (W.getD a 0 - 1)).getD x 0 = (((ts.getD x []).countP fun j => decide (j ∉ proc ++ [i]) : Nat) : Int) := fun x hx => by
      rw [getD_set W a x _ _ (by rw [h.wl]; exact a1)]
      by_cases q : x = a
      · rw [if_pos q, hWa, q]
      · rw [if_neg q, h.wv x hx, cn x, if_neg (fun z => q (only x z))]; rfl
    have aR : a ∉ R := fun z => i2 (((h.rm a).mp z).2.2 i a2)
    have aP : a ∉ proc := fun z => i2 (h.pd a z i a2)
    have aI : a ≠ i := fun z => self (z ▸ a2)
    split
    · rename_i hz
      have all0 : ∀ j ∈ ts.getD a [], j ∈ proc ++ [i] := by
        rw [hWa] at hz
        have hz' : (ts.getD a []).countP (fun j => decide (j ∉ proc ++ [i])) = 0 := by omega
        intro j hj
        have := List.countP_eq_zero.mp hz' j hj
        simp only [decide_eq_true_eq, Decidable.not_not] at this
        exact this
      refine base _ _ ?_ (fun x => ?_) (by rw [List.length_set]; exact h.wl) hW
      · exact List.nodup_append.mpr ⟨nd2, by simp, by intro x hx y hy; simp at hy; subst hy; exact fun z => aR (z ▸ ((mem' x).mp hx).1)⟩
      · rw [List.mem_append, mem', h.rm, pm]
        constructor
        · rintro (⟨⟨k1, k2, k3⟩, k4⟩ | k)
          · exact ⟨k1, fun z => z.elim k2 k4, fun j hj => (pm j).mpr (.inl (k3 j hj))⟩
          · simp at k; subst k
            exact ⟨a1, fun z => z.elim aP aI, all0⟩
        · rintro ⟨k1, k2, k3⟩
          by_cases q : x = a
          · exact .inr (by simp [q])
          · refine .inl ⟨⟨k1, fun z => k2 (.inl z), fun j hj => ?_⟩, fun z => k2 (.inr z)⟩
            rcases (pm j).mp (k3 j hj) with w | w
            · exact w
            · subst w; exact absurd (only x hj) q
    · rename_i hz
      refine base _ _ nd2 (fun x => ?_) (by rw [List.length_set]; exact h.wl) hW
      rw [mem', h.rm, pm]
      constructor
      · rintro ⟨⟨k1, k2, k3⟩, k4⟩
        exact ⟨k1, fun z => z.elim k2 k4, fun j hj => (pm j).mpr (.inl (k3 j hj))⟩
      · rintro ⟨k1, k2, k3⟩
        refine ⟨⟨k1, fun z => k2 (.inl z), fun j hj => ?_⟩, fun z => k2 (.inr z)⟩
        rcases (pm j).mp (k3 j hj) with w | w
        · exact w
        · subst w
          exfalso
          have hxa := only x hj
          apply hz
          rw [hWa, ← hxa]
          have h0 : (ts.getD x []).countP (fun q => decide (q ∉ proc ++ [j])) = 0 := List.countP_eq_zero.mpr fun q hq => by
            simp only [decide_eq_true_eq, Decidable.not_not]
            exact k3 q hq
          rw [h0]; rfl
end k83_whole_forests_towers

namespace k83_whole_forests_towers
open PySem PySem.Spec L2 Mz
def AbOk (ts : Mx.Ties) (A : List (Option Nat)) (P : Nat → Nat → Prop) : Prop := A.length = ts.length ∧ ∀ j < ts.length, ∀ i, A.getD j none = some i ↔ P i j
theorem oD_set (A : List (Option Nat)) (j i : Nat) : (A.map oD).set j (.int (i : Nat)) = (A.set j (some i)).map oD := by rw [List.map_set]; rfl
theorem rep_none (n : Nat) : (List.replicate n [PyData.none]).flatten = (List.replicate n (none : Option Nat)).map oD := by
  induction n with
  | zero => rfl
  | succ n ih => rw [List.replicate_succ, List.flatten_cons, ih]; rfl
theorem rep_zero (n : Nat) : (List.replicate n [PyData.int 0]).flatten = (List.replicate n 0).map nD := by
  induction n with
  | zero => rfl
  | succ n ih => rw [List.replicate_succ, List.flatten_cons, ih]; rfl
theorem w_coming (n : Nat) (ts : Mx.Ties) (hv : Mx.Vd ts) (hu : Up ts) (hl : ts.length ≤ 64) (b : Bg) (hb : BgOk b) (K : R × Bg → Prop) (hK : ∀ out b', Mx.Vd out → out.length = ts.length → BgOk b' → K (.nw (out.map tD), b')) : wR (run tab (n + 3) "_law_coming" [.bag, .d (.list (ts.map tD))] b) K := by
  rw [wRun f__law_coming]
  simp_arith! [d__law_coming]
  rw [Mz.ws_cons]
  refine wS_mid (fun z => z = ⟨[.bag, .val (.list (ts.map tD)), .no, .own ((List.replicate ts.length (none : Option Nat)).map oD), .own ((ts.map fun r => (r.length : Int)).map PyData.int), .no, .no, .no, .no, .no, .no], b⟩) ?_ ?_
  · simp_arith [List.length_map, Int.toNat_natCast, rep_none]
    refine ⟨by
      simp only [Bool.and_eq_true, decide_eq_true_eq]
      have c1 : (-(2 ^ 63) : Int) ≤ 0 := by decide
      have c2 : (64 : Int) < 2 ^ 63 := by decide
      refine ⟨⟨?_, ?_⟩, ?_⟩
      · omega
      · omega
      · exact decide_eq_true (by omega), ?_⟩
    refine wE_map ts tD (fun r => .int (r.length : Int)) ?_
    simp_arith
    refine ⟨by omega, ?_, ?_⟩
    · intro r hr
      simp_arith [tD, List.length_map]
    · simp_arith [List.map_map, Function.comp_def]
  rintro z rfl
  simp_arith! [eq_self]
  rw [Mz.ws_cons]
  refine wS_mid (fun z => ∃ s5 s6 s7 A, z = ⟨[.bag, .val (.list (ts.map tD)), .no, .own (A.map oD), .own ((ts.map fun r => (r.length : Int)).map PyData.int), s5, s6, s7, .no, .no, .no], b⟩ ∧ quietB s5 = true ∧ quietB s6 = true ∧ quietB s7 = true ∧ AbOk ts A fun i j => i < ts.length ∧ j ∈ ts.getD i []) ?_ ?_
  · rw [Mz.ws_loop]
    refine wS_enum ts tD (fun done z => ∃ s5 s6 s7 A, z = ⟨[.bag, .val (.list (ts.map tD)), .no, .own (A.map oD), .own ((ts.map fun r => (r.length : Int)).map PyData.int), s5, s6, s7, .no, .no, .no], b⟩ ∧ quietB s5 = true ∧ quietB s6 = true ∧ quietB s7 = true ∧ AbOk ts A fun i j => i < done.length ∧ j ∈ ts.getD i []) ?_
    simp_arith
    refine ⟨⟨_, _, _, _, rfl, rfl, rfl, rfl, by simp, ?_⟩, ?_, ?_⟩
    · intro j hj i
      simp [List.getD_eq_getElem?_getD, hj]
    · rintro done x rest zc hx ⟨s5, s6, s7, A, rfl, h5, h6, h7, hA⟩
      have hlt := lens hx
      have hr : Mx.RowOk done.length x := hv done x rest hx
      have hxl := hr.len
      have hxe : ts.getD done.length [] = x := by rw [hx]; exact Mx.getD_app_eq rfl
      simp_arith [h5, h6, h7, tD, nD_eq]
      refine wS_for x nD (fun dn z => ∃ s7 A, z = ⟨[.bag, .val (.list (ts.map tD)), .no, .own (A.map oD), .own ((ts.map fun r => (r.length : Int)).map PyData.int), .val (.int (done.length : Nat)), .val (.tuple (x.map nD)), s7, .no, .no, .no], b⟩ ∧ quietB s7 = true ∧ AbOk ts A fun i j => (i < done.length ∧ j ∈ ts.getD i []) ∨ (i = done.length ∧ j ∈ dn)) ?_
      simp_arith
      refine ⟨⟨_, A, rfl, h7, hA.1, fun j hj i => by rw [hA.2 j hj i]; simp⟩, ?_, ?_⟩
      · rintro dn j rs zc hj ⟨s7, A, rfl, h7, hA1, hA2⟩
        have hjm : j ∈ x := by rw [hj]; simp
        have hjd := hr.2 j hjm
        simp_arith [h7, nD_eq, List.length_map, ixN_nat (show j < A.length by omega), oD_set]
        refine ⟨_, _, rfl, rfl, by rw [List.length_set]; exact hA1, fun q hq i => ?_⟩
        rw [getD_set A j q _ _ (by omega)]
        by_cases e : q = j
        · rw [if_pos e, e]
          constructor
          · intro z; cases z; exact .inr ⟨rfl, by simp⟩
          · rintro (⟨k1, k2⟩ | ⟨k1, _⟩)
            · exact absurd (hu i done.length j k2 (hxe ▸ hjm)) (by omega)
            · rw [k1]
        · rw [if_neg e, hA2 q hq i]
          simp [e]
      · rintro ze ⟨s7, A, rfl, h7, hA1, hA2⟩
        simp_arith [h7]
        refine ⟨_, _, _, _, rfl, rfl, rfl, h7, hA1, fun j hj i => ?_⟩
        rw [hA2 j hj i]
        constructor
        · rintro (⟨k1, k2⟩ | ⟨k1, k2⟩)
          · exact ⟨by simp; omega, k2⟩
          · exact ⟨by simp; omega, by rw [k1, hxe]; exact k2⟩
        · rintro ⟨k1, k2⟩
          simp at k1
          by_cases e : i = done.length
          · exact .inr ⟨e, by rw [e, hxe] at k2; exact k2⟩
          · exact .inl ⟨by omega, k2⟩
    · rintro ze ⟨s5, s6, s7, A, rfl, h5, h6, h7, hA⟩
      simp_arith
      exact ⟨_, _, _, _, rfl, h5, h6, h7, hA⟩
  rintro z ⟨s5, s6, s7, A, rfl, h5, h6, h7, hA1, hA2⟩
  have c1 : (-(2 ^ 63) : Int) ≤ 0 := by decide
  have c2 : (64 : Int) < 2 ^ 63 := by decide
  have hAu : ∀ i a, i < ts.length → (A.getD i none = some a ↔ a < ts.length ∧ i ∈ ts.getD a []) := fun i a hi => hA2 i hi a
  simp_arith [h5, h6, h7]
  refine wE_comp ts.zipIdx (fun p => .tuple [nD p.2, tD p.1]) (fun p => p.1.isEmpty) (fun p => nD p.2) ?_
  simp_arith [h5, h6, h7, enum_map]
  refine ⟨by rw [List.length_zipIdx]; omega, ?_, ?_⟩
  · intro p hp
    simp_arith [h5, h6, h7, tD, List.isEmpty_map]
    cases hq : p.1.isEmpty
    · simp_arith
    · simp_arith
  simp_arith [List.length_map, Int.toNat_natCast, rep_zero]
  refine ⟨by
    simp only [Bool.and_eq_true, decide_eq_true_eq]
    refine ⟨⟨?_, ?_⟩, ?_⟩ <;> omega, ?_⟩
  have hR0 : (ts.zipIdx.filter fun p => p.1.isEmpty).map (fun p => nD p.2) = ((ts.zipIdx.filter fun p => p.1.isEmpty).map (·.2)).map nD := by rw [List.map_map]; rfl
  rw [hR0]
  have kn0 : Kn ts [] ((ts.zipIdx.filter fun p => p.1.isEmpty).map (·.2)) (ts.map fun r => (r.length : Int)) (List.replicate ts.length 0) [] := {
    pn := List.nodup_nil
    pl := by simp
    pd := by simp
    rn := by
      have h1 : ((ts.zipIdx.filter fun p => p.1.isEmpty).map (·.2)).Sublist (ts.zipIdx.map (·.2)) := (List.filter_sublist).map _
      have h2 : ts.zipIdx.map (·.2) = List.range ts.length := by
        rw [List.zipIdx_map_snd]; simp [List.range_eq_range']
      rw [h2] at h1
      exact h1.nodup List.nodup_range
    rm := fun i => by
      simp only [List.mem_map, List.mem_filter, List.not_mem_nil, not_false_eq_true, true_and]
      constructor
      · rintro ⟨p, ⟨hp, he⟩, rfl⟩
        have := List.mk_mem_zipIdx_iff_getElem?.mp (show (p.1, p.2) ∈ ts.zipIdx from hp)
        obtain ⟨h1, h2⟩ := List.getElem?_eq_some_iff.mp this
        refine ⟨h1, fun j hj => ?_⟩
        rw [List.getD_eq_getElem?_getD, this] at hj
        simp only [Option.getD_some] at hj
        rw [List.isEmpty_iff.mp he] at hj
        cases hj
      · rintro ⟨h1, h2⟩
        refine ⟨(ts.getD i [], i), ⟨List.mk_mem_zipIdx_iff_getElem?.mpr ?_, ?_⟩, rfl⟩
        · rw [List.getD_eq_getElem?_getD, List.getElem?_eq_getElem h1]; rfl
        · rw [List.isEmpty_iff]
          cases hq : ts.getD i [] with
          | nil => rfl
          | cons a r => exact (h2 a (by rw [hq]; simp)).elim
    wl := by simp
    wv := fun a ha => by
      rw [Mx.getD_map (d := []) ha]
      congr 1
      exact (List.countP_eq_length.mpr (by simp)).symm
    ll := by simp
    lv := by simp
    li := by simp
    ov := Mx.Vd.nil
    ol := rfl }
  generalize (ts.zipIdx.filter fun p => p.1.isEmpty).map (·.2) = R0 at *
  generalize (ts.map fun r => (r.length : Int)) = W0 at *
  refine wS_for (List.range ts.length) nD (fun done z => ∃ s2 s5 s6 s7 proc R W Pl out b', z = ⟨[.bag, .val (.list (ts.map tD)), s2, .own (A.map oD), .own (W.map PyData.int), s5, s6, s7, .own (R.map nD), .own (Pl.map nD), .own (out.map tD)], b'⟩ ∧ setOk s2 = true ∧ setOk s5 = true ∧ quietB s6 = true ∧ quietB s7 = true ∧ Kn ts proc R W Pl out ∧ proc.length = done.length ∧ BgOk b') ?_
  simp_arith [List.length_map, okI_nat (show ts.length ≤ 1000000 by omega), rg_nat]
  refine ⟨⟨_, _, _, _, [], _, _, _, [], _, rfl, rfl, setOk_of_quiet h5, h6, h7, kn0, rfl, hb⟩, ?_, ?_⟩
  · rintro done k rest zc hx ⟨s2, s5, s6, s7, proc, R, W, Pl, out, b1, rfl, h2, h5, h6, h7, hk, hpl, hb1⟩
    have hkd := range_split hx
    have hlt : done.length < ts.length := by have := congrArg List.length hx; simp at this; omega
    have hRne := hk.ready hv (by omega)
    have hRp := List.length_pos_iff.mpr hRne
    have hRl : R.length ≤ ts.length := by
      have h2 := Mx.card_sub (l := List.range ts.length) (J := R) fun x hx => List.mem_range.mpr ((hk.rm x).mp hx).1
      rw [Mx.card_nodup hk.rn, Mx.card_nodup List.nodup_range, List.length_range] at h2
      omega
    simp_arith [h2, h5, h6, h7, List.length_map]
    refine w_draw (n + 1) _ b1 (by omega) (by omega) hb1 _ fun r b2 hr hb2 => ?_
    have hr' : r < R.length := by omega
    have e1 : (R.map nD)[r]? = some (nD (R.getD r 0)) := by simp [List.getD, hr']
    have e2 : (R.map nD).eraseIdx r = (R.eraseIdx r).map nD := by simp only [List.eraseIdx_eq_take_drop_succ, List.map_append, List.map_take, List.map_drop]
    simp_arith [nD_eq, List.length_map, ixN_nat hr', e1, e2, h5]
    refine ⟨by simp only [Bool.and_eq_true, decide_eq_true_eq]; constructor <;> omega, ?_⟩
    have hiR : R.getD r 0 ∈ R := Mx.getD_mem hr'
    obtain ⟨i1, i2, i3⟩ := (hk.rm _).mp hiR
    have hstep := fun row hrow => hk.step hv hu hr' (row := row) hrow (up := A.getD (R.getD r 0) none) (fun a => hAu _ a i1)
    generalize R.getD r 0 = i at *
    have hw := vd_row hv i
    have hwl := hw.len
    have lset : ∀ x, (Pl.set i proc.length).getD x 0 = if x = i then proc.length else Pl.getD x 0 := fun x => getD_set Pl i x _ _ (by rw [hk.ll]; exact i1)
    have gset : ∀ j ∈ ts.getD i [], (Pl.set i proc.length).getD j 0 = Pl.getD j 0 := fun j hj => by
      rw [lset, if_neg]; have := hw.2 j hj; omega
    have hnd : (Mx.gJ (Pl.set i proc.length) (ts.getD i [])).Nodup := by
      rw [Mx.gJ, List.nodup_iff_pairwise_ne, List.pairwise_map]
      refine hw.1.imp_of_mem ?_
      intro x y hx hy hxy e
      rw [gset x hx, gset y hy] at e
      have := hk.li x (i3 x hx) y (i3 y hy) e
      omega
    have hbd : ∀ q ∈ Mx.gJ (Pl.set i proc.length) (ts.getD i []), q < proc.length := by
      intro q hq
      obtain ⟨j, hj, rfl⟩ := List.mem_map.mp hq
      rw [gset j hj]
      exact hk.lv j (i3 j hj)
    obtain ⟨row, hrow, hok⟩ := sorted_ok2 hnd hbd
    obtain ⟨st1, st2⟩ := hstep row hok
    have hol := hk.ol
    have hll := hk.ll
    have hwl2 := hk.wl
    have eset : (Pl.map nD).set i (.int (k : Nat)) = (Pl.set i proc.length).map nD := by rw [List.map_set, hpl, ← hkd]; rfl
    have e5 : atI (ts.map tD) (i : Int) = some (.tuple ((ts.getD i []).map nD)) := by
      rw [atI_nat (tD []) (by rw [List.length_map]; exact i1), Mx.getD_map (d := []) i1]; rfl
    simp_arith [h2, h5, h6, h7, List.length_map, ixN_nat (show i < Pl.length by omega), eset, e5]
    refine wE_map (ts.getD i []) nD (fun j => nD ((Pl.set i proc.length).getD j 0)) ?_
    simp_arith [h2, h5, h6, h7, e5]
    refine ⟨by omega, ?_, ?_⟩
    · intro j hj
      have := hw.2 j hj
      simp_arith [nD_eq, at_map 0 (show j < (Pl.set i proc.length).length by rw [List.length_set]; omega)]
    rw [met_eq2]
    have e6 : atI (A.map oD) (i : Int) = some (oD (A.getD i none)) := by
      rw [atI_nat (oD none) (by rw [List.length_map]; omega), Mx.getD_map (d := none) (by omega)]
    simp_arith [ints_nat, hrow, List.length_map, e6]
    have e3 : out.map tD ++ [.tuple (row.map nD)] = (out ++ [row]).map tD := by simp [tD]
    rw [e3]
    refine ⟨by omega, ?_⟩
    cases hup : A.getD i none with
    | none =>
      simp_arith [oD]
      exact ⟨_, _, _, _, _, _, _, _, _, _, rfl, rfl, rfl, h6, h7, st1 hup, by simp [hpl], hb2⟩
    | some a =>
      obtain ⟨a1, a2⟩ := st2 a hup
      have eW : (W.map PyData.int).set a (.int (W.getD a 0 - 1)) = (W.set a (W.getD a 0 - 1)).map PyData.int := by rw [List.map_set]
      rw [hup] at e6
      have e7 : atI (W.map PyData.int) (a : Int) = some (.int (W.getD a 0)) := by
        rw [atI_nat (.int 0) (by rw [List.length_map]; omega), Mx.getD_map (d := (0 : Int)) (by omega)]
      have e8 : atI ((W.set a (W.getD a 0 - 1)).map PyData.int) (a : Int) = some (.int (W.getD a 0 - 1)) := by
        rw [atI_nat (.int 0) (by rw [List.length_map, List.length_set]; omega), Mx.getD_map (d := (0 : Int)) (by rw [List.length_set]; omega), getD_set W a a _ _ (by omega), if_pos rfl]
      simp_arith [oD, nD_eq, e6, e7, e8, ixN_nat (show a < W.length by omega), eW, List.length_map]
      refine brd (fun q => ?_) fun q => ?_
      · rw [if_pos q] at a2
        simp_arith [oD, nD_eq, e6, List.length_map, List.length_eraseIdx, hr']
        have e4 : (R.eraseIdx r).map nD ++ [.int (a : Nat)] = (R.eraseIdx r ++ [a]).map nD := by simp [nD]
        rw [e4]
        exact ⟨by omega, _, _, _, _, _, _, _, _, _, _, rfl, rfl, rfl, h6, h7, a2, by simp [hpl], hb2⟩
      · rw [if_neg q] at a2
        simp_arith
        exact ⟨_, _, _, _, _, _, _, _, _, _, rfl, rfl, rfl, h6, h7, a2, by simp [hpl], hb2⟩
  · rintro ze ⟨s2, s5, s6, s7, proc, R, W, Pl, out, b1, rfl, h2, h5, h6, h7, hk, hpl, hb1⟩
    simp_arith
    rw [List.length_range] at hpl
    exact hK out b1 hk.ov (by rw [hk.ol, hpl]) hb1
end k83_whole_forests_towers

namespace k83_whole_forests_towers
open PySem PySem.Spec L2 Mz
theorem rep_tup (n : Nat) : (List.replicate n [PyData.tuple []]).flatten = (List.replicate n ([] : List Nat)).map tD := by
  induction n with
  | zero => rfl
  | succ n ih => rw [List.replicate_succ, List.flatten_cons, ih]; rfl
def KCoMX {α : Type} (enc : α → PyData) (g : α → PyData) (t : Tg) (c e : MU) (vs : List Nat) (Q : U → Z → Prop) (items : List PyData) (lks : List Nat) (z1 : Z) : Prop := ∃ xs : List α, KCoM xs enc g t c e vs Q items lks z1
theorem wE_mapX {it : MI} {t : Tg} {c e : MU} {vs : List Nat} {z : Z} {Q : U → Z → Prop} {α : Type} (enc : α → PyData) (g : α → PyData) (h : wI it z (KCoMX enc g t c e vs Q)) : wE (compE it t c e vs) z Q := by
  obtain ⟨w, e, xs, hk⟩ := h
  exact wE_map xs enc g ⟨w, e, hk⟩
theorem vd_shift {a c : Mx.Ties} {m : Nat} (ha : Mx.Vd a) (hm : a.length = m) (hc : Mx.Vd c) : Mx.Vd (a ++ c.map fun r => r.map (m + ·)) := by
  revert hc
  refine Mx.snoc_ind (P := fun c : Mx.Ties => Mx.Vd c → Mx.Vd (a ++ c.map fun r => r.map (m + ·))) (fun _ => by simpa using ha) (fun l x ih hc => ?_) c
  rw [List.map_append, ← List.append_assoc]
  refine (ih hc.pre).snoc ?_
  obtain ⟨h1, h2⟩ := Mx.Vd.last (r := []) hc
  refine ⟨?_, ?_⟩
  · rw [List.pairwise_map]; exact h1.imp fun {p q} h => by omega
  · intro j hj
    obtain ⟨k, hk, rfl⟩ := List.mem_map.mp hj
    have := h2 k hk
    simp [hm]; omega
theorem w_ties (n : Nat) (b : Bg) (hb : BgOk b) (K : R × Bg → Prop) (hK : ∀ ts b', Mx.Vd ts → ts.length ≤ 64 → BgOk b' → K (.d (.tuple (ts.map tD)), b')) : wR (run tab (n + 10) "_law_ties" [.bag] b) K := by
  rw [wRun f__law_ties]
  have tupK : ∀ ts b', Mx.Vd ts → ts.length ≤ 64 → BgOk b' → K (.d (.tuple (ts.map tD)), b') := hK
  simp_arith! [d__law_ties]
  rw [Mz.ws_cons]
  refine wS_mid (fun z => ∃ (many way : Nat) (b' : Bg), z = ⟨[.bag, .val (.int (many : Nat)), .val (.int (way : Nat)), .no, .no, .no, .no], b'⟩ ∧ many ≤ 64 ∧ BgOk b') ?_ ?_
  · simp_arith
    refine w_draw (n + 8) 65 b (by omega) (by omega) hb _ fun r b1 hr hb1 => ?_
    simp_arith [nD_eq]
    refine w_pick (n + 7) _ _ b1 (.inl rfl) (by simp) (by simp) hb1 _ fun a ha b2 hb2 => ?_
    obtain ⟨m, hm, rfl⟩ : ∃ m : Nat, m ≤ 64 ∧ a = .int (m : Nat) := by
      simp only [List.mem_cons, List.not_mem_nil, or_false] at ha
      rcases ha with rfl | rfl | rfl
      · exact ⟨64, by omega, rfl⟩
      · exact ⟨64, by omega, rfl⟩
      · exact ⟨r, by omega, rfl⟩
    simp_arith
    refine w_draw (n + 8) 9 b2 (by omega) (by omega) hb2 _ fun w b3 hw hb3 => ?_
    simp_arith [nD_eq]
    exact ⟨_, _, _, rfl, hm, hb3⟩
  rintro z ⟨many, way, b1, rfl, hm, hb1⟩
  simp_arith
  refine brd (fun q => ?_) fun q => ?_
  · simp_arith
    refine w_draw (n + 8) 7 b1 (by omega) (by omega) hb1 _ fun r b2 hr hb2 => ?_
    simp_arith [nD_eq]
    refine w_pick (n + 7) _ _ b2 (.inl rfl) (by simp) (by simp) hb2 _ fun a ha b3 hb3 => ?_
    obtain ⟨c, hc, rfl⟩ : ∃ c : Nat, c ≤ 6 ∧ a = .int (c : Nat) := by
      simp only [List.mem_cons, List.not_mem_nil, or_false] at ha
      rcases ha with rfl | rfl | rfl
      · exact ⟨6, by omega, rfl⟩
      · exact ⟨5, by omega, rfl⟩
      · exact ⟨r, by omega, rfl⟩
    have hup : Up (towF c) := by
      have : c = 0 ∨ c = 1 ∨ c = 2 ∨ c = 3 ∨ c = 4 ∨ c = 5 ∨ c = 6 := by omega
      rcases this with h | h | h | h | h | h | h <;> subst h <;> exact up_of (by decide +kernel)
    obtain ⟨t1, t2⟩ := towF_vd c hc
    simp_arith [r_law_tower (n + 2) c hc]
    refine w_coming (n + 6) (towF c) t1 hup t2 b3 hb3 _ fun out b4 hv hl hb4 => ?_
    simp_arith
    exact tupK out b4 hv (by omega) hb4
  simp_arith
  refine brd (fun q => ?_) fun q => ?_
  · simp_arith
    refine wE_map (List.range many) nD (fun i => tD (if i = 0 then [] else [i - 1])) ?_
    simp_arith [okI_nat (show many ≤ 1000000 by omega), rg_nat, List.length_range]
    refine ⟨by omega, ?_, ?_⟩
    · intro i hi
      simp_arith [nD_eq]
      by_cases h : i = 0
      · subst h
        simp_arith [Int.natCast_zero, decide_true]
        rfl
      · simp_arith [h, show ¬ (i : Int) = 0 by omega, decide_false]
        rw [show (i : Int) - 1 = ((i - 1 : Nat) : Int) by omega]; rfl
    have e : (List.range many).map (fun i => tD (if i = 0 then [] else [i - 1])) = ((List.range many).map fun i => if i = 0 then [] else [i - 1]).map tD := by rw [List.map_map]; rfl
    rw [e]
    refine tupK _ b1 ?_ (by simp; omega) hb1
    intro l x r e
    have hlt : l.length < many := by have := congrArg List.length e; simp at this; omega
    have hx : ((List.range many).map fun i => if i = 0 then [] else [i - 1])[l.length]? = some x := by rw [e]; simp
    simp [hlt] at hx
    subst hx
    by_cases h0 : l.length = 0
    · rw [if_pos (List.length_eq_zero_iff.mp h0)]
      exact ⟨List.Pairwise.nil, by simp⟩
    · rw [if_neg (fun z => h0 (List.length_eq_zero_iff.mpr z))]
      exact ⟨by simp, by intro j hj; simp at hj; omega⟩
  simp_arith
  refine brd (fun q => ?_) fun q => ?_
  · simp_arith
    refine brd (fun h => ?_) fun h => ?_
    · have h1 : (many : Int) - 1 = ((many - 1 : Nat) : Int) := by omega
      simp_arith [h1, tmulD, okRg_nat (show many - 1 ≤ 1000000 by omega), rg_nat, Int.toNat_natCast]
      have c1 : (-(2 ^ 63) : Int) ≤ 0 := by decide
      refine ⟨by
        simp only [Bool.and_eq_true, decide_eq_true_eq, and_true]
        constructor <;> omega, ?_⟩
      have e : (List.replicate (many - 1) [PyData.tuple []]).flatten ++ [.tuple ((List.range (many - 1)).map nD)] = (List.replicate (many - 1) [] ++ [List.range (many - 1)]).map tD := by
        rw [rep_tup, List.map_append]; rfl
      have hl2 : ((List.replicate (many - 1) [PyData.tuple []]).flatten).length = many - 1 := by rw [rep_tup]; simp
      rw [e, hl2]
      refine ⟨by omega, tupK _ b1 ?_ (by simp; omega) hb1⟩
      refine Mx.Vd.snoc ?_ ?_
      · intro l x r e
        have : x ∈ List.replicate (many - 1) ([] : List Nat) := by rw [e]; simp
        rw [(List.mem_replicate.mp this).2]
        exact ⟨List.Pairwise.nil, by simp⟩
      · exact ⟨List.pairwise_lt_range, fun j hj => by simpa using hj⟩
    · simp_arith
      exact tupK [] b1 Mx.Vd.nil (by simp) hb1
  simp_arith
  refine brd (fun q => ?_) fun q => ?_
  · simp_arith
    rw [show max (many : Int) 3 = ((max many 3 : Nat) : Int) by omega]
    refine w_draw (n + 8) _ b1 (by omega) (by omega) hb1 _ fun r b2 hr hb2 => ?_
    simp_arith [nD_eq]
    rw [show (3 : Int) + (r : Int) = ((3 + r : Nat) : Int) by omega]
    refine w_ring (n + 6) (max many 3) (3 + r) (by omega) (by omega) (by omega) b2 hb2 _ fun ts b3 hv hl hb3 _ => ?_
    simp_arith
    exact tupK ts b3 hv (by omega) hb3
  simp_arith
  refine brd (fun q => ?_) fun q => ?_
  · simp_arith
    refine w_pick (n + 7) _ _ b1 (.inl rfl) (by simp) (by simp) hb1 _ fun a ha b2 hb2 => ?_
    obtain ⟨m, hm, rfl⟩ : ∃ m : Nat, m ≤ 64 ∧ a = .int (m : Nat) := by
      simp only [List.mem_cons, List.not_mem_nil, or_false] at ha
      rcases ha with rfl | rfl | rfl | rfl
      · exact ⟨16, by omega, rfl⟩
      · exact ⟨12, by omega, rfl⟩
      · exact ⟨5, by omega, rfl⟩
      · exact ⟨9, by omega, rfl⟩
    simp_arith
    refine w_draw (n + 8) 2 b2 (by omega) (by omega) hb2 _ fun r b3 hr hb3 => ?_
    simp_arith [nD_eq]
    refine w_thick (n + 6) m r hm (by omega) b3 hb3 _ fun ts b4 hv hl hb4 => ?_
    simp_arith
    exact tupK ts b4 hv (by omega) hb4
  simp_arith
  refine brd (fun q => ?_) fun q => ?_
  · simp_arith
    refine w_draw (n + 8) _ b1 (by omega) (by omega) hb1 _ fun r b2 hr hb2 => ?_
    simp_arith [nD_eq]
    refine w_pick (n + 7) _ _ b2 (.inl rfl) (by simp) (by simp) hb2 _ fun a ha b3 hb3 => ?_
    obtain ⟨w, rfl⟩ : ∃ w : Int, a = .int w := by
      simp only [List.mem_cons, List.not_mem_nil, or_false] at ha
      rcases ha with rfl | rfl
      · exact ⟨_, rfl⟩
      · exact ⟨_, rfl⟩
    simp_arith
    refine w_forest (n + 6) many w hm b3 hb3 _ fun ts b4 hv hl hb4 => ?_
    simp_arith
    exact tupK ts b4 hv (by omega) hb4
  simp_arith
  refine brd (fun q => ?_) fun q => ?_
  · have t5 : ∀ n b, run tab (n + 7) "_law_tower" [.d (.int 5)] b = some (.nw ((towF 5).map tD), b) := fun n b => r_law_tower n 5 (by omega) b
    obtain ⟨t1, t2⟩ := towF_vd 5 (by omega)
    have hup : Up (towF 5) := up_of (by decide +kernel)
    have hlen : (towF 5).length = 32 := by decide +kernel
    simp_arith [t5]
    refine wE_mapX tD (fun r => tD (r.map (32 + ·))) ?_
    simp_arith
    refine w_coming (n + 6) (towF 5) t1 hup t2 b1 hb1 _ fun out b2 hv hl hb2 => ?_
    simp_arith
    refine ⟨out, ?_⟩
    simp_arith
    refine ⟨by omega, ?_, ?_⟩
    · intro r hr
      obtain ⟨i, hi, rfl⟩ := List.mem_iff_getElem.mp hr
      have hrl := (vd_row hv i).len
      rw [List.getD_eq_getElem?_getD, List.getElem?_eq_getElem hi] at hrl
      simp only [Option.getD_some] at hrl
      simp_arith [tD]
      refine wE_map out[i] nD (fun j => nD (32 + j)) ?_
      simp_arith
      refine ⟨by omega, ?_, ?_⟩
      · intro j hj
        simp_arith [nD_eq]
        rfl
      · rw [List.map_map]; rfl
    · have e : (towF 5).map tD ++ out.map (fun r : List Nat => tD (r.map (32 + ·))) = (towF 5 ++ out.map (fun r : List Nat => r.map (32 + ·))).map tD := by simp [Function.comp_def]
      simp_arith [List.length_map]
      rw [e]
      refine ⟨by omega, tupK _ b2 (vd_shift t1 hlen hv) (by simp; omega) hb2⟩
  simp_arith
  refine w_forest (n + 6) many (-1) hm b1 hb1 _ fun ts b4 hv hl hb4 => ?_
  simp_arith
  exact tupK ts b4 hv (by omega) hb4
end k83_whole_forests_towers

namespace k83_whole_forests_towers
open PySem PySem.Spec L2 Mz
/-! ### the least and the ring -/
def ringT (s : Nat) : Mx.Ties := ((List.range s).map fun i => if i = 0 then [] else [i - 1]).set (s - 1) [0, s - 2]
theorem ring_rows {s : Nat} (hs : 3 ≤ s) : (∀ i, 0 < i → i < s - 1 → (ringT s).getD i [] = [i - 1]) ∧ (ringT s).getD (s - 1) [] = [0, s - 2] ∧ (ringT s).length = s := by
  have hl : ((List.range s).map fun i => if i = 0 then [] else [i - 1]).length = s := by simp
  refine ⟨fun i h1 h2 => ?_, ?_, by simp [ringT]⟩
  · unfold ringT
    rw [getD_set _ _ _ _ _ (by rw [hl]; omega), if_neg (by omega), Mx.getD_map (d := 0) (by simp; omega)]
    simp only [List.getD_eq_getElem?_getD, List.getElem?_range (show i < s by omega), Option.getD_some]
    rw [if_neg (by omega)]
  · unfold ringT
    rw [getD_set _ _ _ _ _ (by rw [hl]; omega), if_pos rfl]
/-- ties with a ring of oddly many have no two colours -/
theorem colErr_none {ts : Mx.Ties} {cs : List Int} (h : colErr ts cs = .none) : ∀ i < ts.length, ∀ j ∈ ts.getD i [], cs.getD i 0 ≠ cs.getD j 0 := by
  intro i hi j hj e
  unfold colErr at h
  cases hq : ts.zipIdx.find? (fun p => (p.1.find? fun j => decide (cs.getD p.2 0 = cs.getD j 0)).isSome) with
  | some p => rw [hq] at h; cases h
  | none =>
    have hm : (ts.getD i [], i) ∈ ts.zipIdx := List.mk_mem_zipIdx_iff_getElem?.mpr (by
      rw [List.getD_eq_getElem?_getD, List.getElem?_eq_getElem hi]; rfl)
    exact List.find?_eq_none.mp hq _ hm (List.find?_isSome.mpr ⟨j, hj, by simpa using e⟩)
def foB (ts : Mx.Ties) : Bool := (ts.foldl (fun (s : List Nat × Bool) row => (Mx.pStep s.1 row, s.2 && decide (Mx.gJ s.1 row).Nodup)) ([], true)).2
theorem foB_fst (ts : Mx.Ties) : (ts.foldl (fun (s : List Nat × Bool) row => (Mx.pStep s.1 row, s.2 && decide (Mx.gJ s.1 row).Nodup)) ([], true)).1 = Mx.partC ts := by
  refine Mx.snoc_ind (P := fun ts : Mx.Ties => (ts.foldl (fun (s : List Nat × Bool) row => (Mx.pStep s.1 row, s.2 && decide (Mx.gJ s.1 row).Nodup)) ([], true)).1 = Mx.partC ts) rfl (fun l x ih => ?_) ts
  rw [List.foldl_append, Mx.partC_snoc, ← ih]; rfl
theorem foB_snoc (l : Mx.Ties) (x : List Nat) : foB (l ++ [x]) = (foB l && decide (Mx.gJ (Mx.partC l) x).Nodup) := by
  conv => lhs; unfold foB
  rw [List.foldl_append]
  show (_ && decide (Mx.gJ _ x).Nodup) = _
  rw [foB_fst]; rfl
theorem foB_iff (ts : Mx.Ties) : foB ts = true ↔ Mx.Fo ts := by
  refine Mx.snoc_ind (P := fun ts : Mx.Ties => foB ts = true ↔ Mx.Fo ts) ⟨fun _ => Mx.Fo.nil, fun _ => rfl⟩ (fun l x ih => ?_) ts
  rw [foB_snoc, Bool.and_eq_true, decide_eq_true_eq, ih]
  exact ⟨fun h => h.1.snoc h.2, fun h => ⟨h.pre, Mx.Fo.last (r := []) h⟩⟩
theorem odd_ring {k : Nat} {cs : List Int} (h01 : ∀ i, cs.getD i 0 = 0 ∨ cs.getD i 0 = 1) : colErr (ringT (3 + 2 * k)) cs ≠ .none := by
  intro h
  obtain ⟨r1, r2, r3⟩ := ring_rows (s := 3 + 2 * k) (by omega)
  have hp := colErr_none h
  rw [r3] at hp
  have step : ∀ i, i + 1 < 2 + 2 * k → cs.getD (i + 1) 0 = 1 - cs.getD i 0 := fun i hi => by
    have := hp (i + 1) (by omega) i (by rw [r1 (i + 1) (by omega) (by omega)]; simp)
    have h1 := h01 i
    have h2 := h01 (i + 1)
    omega
  have even : ∀ m, 2 * m < 2 + 2 * k → cs.getD (2 * m) 0 = cs.getD 0 0 := by
    intro m
    induction m with
    | zero => intro _; rfl
    | succ m ih =>
      intro hm
      have h1 := step (2 * m) (by omega)
      have h2 := step (2 * m + 1) (by omega)
      have h3 := ih (by omega)
      rw [show 2 * (m + 1) = 2 * m + 1 + 1 by omega, h2, h1, h3]; omega
  have h1 := step (2 * k) (by omega)
  have h2 := even k (by omega)
  have e1 := hp (2 + 2 * k) (by omega) 0 (by rw [show 2 + 2 * k = 3 + 2 * k - 1 by omega, r2]; simp)
  have e2 := hp (2 + 2 * k) (by omega) (2 * k + 1) (by rw [show 2 + 2 * k = 3 + 2 * k - 1 by omega, r2]; simp; omega)
  have h3 := h01 (2 + 2 * k)
  have h4 := h01 0
  omega
theorem ring_vals : ∀ k < 31, Mx.Vd (ringT (3 + 2 * k)) ∧ ¬ Mx.Fo (ringT (3 + 2 * k)) ∧ ((Mx.leastC (ringT (3 + 2 * k))).foldl max 0 = 2 ∧ 0 < (Mx.leastC (ringT (3 + 2 * k))).length) := by
  have key : ((List.range 31).all fun k => vdB (ringT (3 + 2 * k)) && (!foB (ringT (3 + 2 * k)) && (decide ((Mx.leastC (ringT (3 + 2 * k))).foldl max 0 = 2) && decide (0 < (Mx.leastC (ringT (3 + 2 * k))).length)))) = true := by decide +kernel
  intro k hk
  have := List.all_eq_true.mp key k (List.mem_range.mpr hk)
  simp only [Bool.and_eq_true, decide_eq_true_eq, Bool.not_eq_true'] at this
  refine ⟨vd_of this.1, fun h => ?_, this.2.2.1, this.2.2.2⟩
  rw [(foB_iff _).mpr h] at this
  exact absurd this.2.1 (by decide)
end k83_whole_forests_towers

namespace k83_whole_forests_towers
open PySem PySem.Spec L2 Mz
theorem plA_ints (ns : List Int) : plA (ns.map PyData.int) = true := by
  induction ns with
  | nil => rfl
  | cons a r ih => simp only [List.map_cons, plA, ih, plD, Bool.and_self]
theorem plD_ints {ns : List Int} (h : ns.length ≤ 16777216) : plD (.tuple (ns.map PyData.int)) = true ∧ (PyData.tuple (ns.map PyData.int)).depth ≤ 1 := by
  simp only [plD, plA_ints, PyData.depth, depL_ints, List.length_map, Bool.and_true, decide_eq_true_eq]
  exact ⟨h, by omega⟩
theorem nD_ints (l : List Nat) : l.map nD = (l.map fun j : Nat => (j : Int)).map PyData.int := by rw [List.map_map]; rfl
theorem plD_nats {l : List Nat} (h : l.length ≤ 16777216) : plD (.tuple (l.map nD)) = true ∧ (PyData.tuple (l.map nD)).depth ≤ 1 := by
  rw [nD_ints]; exact plD_ints (by rw [List.length_map]; exact h)
theorem gd_ints {ns : List Int} {B : Nat} (h : ∀ i ∈ ns, i.natAbs < B) : GD B ns.length 1 (.tuple (ns.map PyData.int)) := (GA.ints h).tup
theorem gdT_ints {ns : List Int} (h : ns.length ≤ 16777216) : gdT (.tuple (ns.map PyData.int)) := by
  refine ⟨fun rows e => by cases e; rw [List.length_map]; exact h, fun rows e ds hd => ?_⟩
  cases e
  obtain ⟨i, _, e⟩ := List.mem_map.mp hd
  cases e
theorem max_foldl (l : List Nat) (a : Nat) : (l.map fun j : Nat => (j : Int)).foldl max (a : Int) = ((l.foldl max a : Nat) : Int) := by
  induction l generalizing a with
  | nil => rfl
  | cons c r ih =>
    rw [List.map_cons, List.foldl_cons, List.foldl_cons, ← ih]
    congr 1; omega
theorem mms_max (l : List Nat) (h : 0 < l.length) : mmS max [.tuple (l.map nD)] = some (.d (.int ((l.foldl max 0 : Nat) : Int))) := by
  cases l with
  | nil => simp at h
  | cons a r =>
    show (intsD ((a :: r).map nD)).bind _ = _
    rw [ints_nat]
    show some (R.d (.int ((r.map fun j : Nat => (j : Int)).foldl max (a : Int)))) = _
    rw [max_foldl, List.foldl_cons, Nat.max_eq_right (Nat.zero_le a)]
theorem mmT_max : mmS max [.tuple ([] : List PyData)] = none := rfl
theorem colErr_ne (ts : Mx.Ties) (cs : List Int) : colErr ts cs ≠ .none → isCst .non (colErr ts cs) = false := by
  intro h
  cases hq : colErr ts cs <;> first | rfl | exact absurd hq h
theorem colD_ints (ts : Mx.Ties) (cs : List Int) (hl : cs.length = ts.length) (h0 : ∀ c ∈ cs, 0 ≤ c) : colD ts (.tuple (cs.map PyData.int)) = colErr ts cs := by
  unfold colD
  have h1 : (cs.map PyData.int).length = ts.length ∧ (cs.map PyData.int).all nn = true := ⟨by rw [List.length_map]; exact hl, by
    rw [List.all_map, List.all_eq_true]
    intro c hc
    simp [nn, h0 c hc]⟩
  simp only [h1, and_self, if_true]
  rw [List.map_map]
  congr 1
  exact List.map_id' cs
theorem w_odd_ring (n : Nat) (k : Nat) (hk : k < 31) (b : Bg) (hb : BgOk b) (K : R × Bg → Prop) (hK : ∀ b', BgOk b' → K (.d (.bool true), b')) : wR (run tab (n + 10) "_law_odd_ring" [.bag, .d (.int ((3 + 2 * k : Nat) : Int))] b) K := by
  rw [wRun f__law_odd_ring]
  obtain ⟨v1, v2, v3, v4⟩ := ring_vals k hk
  generalize hs : 3 + 2 * k = s at *
  simp_arith [d__law_odd_ring]
  refine w_ring (n + 6) s s (by omega) (by omega) (by omega) b hb _ fun ts b0 _ hl hb0 hr => ?_
  obtain ⟨rfl, rfl⟩ := hr rfl
  rw [show ((List.range s).map fun i => if i = 0 then [] else [i - 1]).set (s - 1) [0, s - 2] = ringT s from rfl] at *
  clear hr hb0
  simp_arith
  refine wS_for (List.range 3) nD (fun done z => ∃ s3 s4 s5 s6 b', z = ⟨[.bag, .val (.int (s : Nat)), .val (.tuple ((ringT s).map tD)), s3, s4, s5, s6], b'⟩ ∧ setOk s3 = true ∧ setOk s4 = true ∧ setOk s5 = true ∧ quietB s6 = true ∧ BgOk b') ?_
  simp_arith [okI_in (i := 3) (by omega) (by omega), show rgD 0 3 = (List.range 3).map nD from rg_nat 3]
  refine ⟨⟨_, _, _, _, _, rfl, rfl, rfl, rfl, rfl, hb⟩, ?_, ?_⟩
  · rintro done q rest zc hx ⟨s3, s4, s5, s6, b1, rfl, h3, h4, h5, h6, hb1⟩
    simp_arith [h3, h4, h5, h6, nD_eq]
    refine wE_compI (List.range s) nD (fun dn acc z => ∃ (cs : List Int) (b' : Bg), z = ⟨[.bag, .val (.int (s : Nat)), .val (.tuple ((ringT s).map tD)), .val (.int (q : Nat)), s4, s5, .no], b'⟩ ∧ acc = cs.map PyData.int ∧ cs.length = dn.length ∧ (∀ c ∈ cs, c = 0 ∨ c = 1) ∧ BgOk b') ?_
    simp_arith [h6, okI_nat (show s ≤ 1000000 by omega), rg_nat, List.length_range]
    refine ⟨by omega, ⟨[], b1, rfl, rfl, rfl, by simp, hb1⟩, ?_, ?_⟩
    · rintro dn i rs acc zc hi hacc ⟨cs, b2, rfl, rfl, hcl, hc, hb2⟩
      have fin : ∀ (c : Int) b3, BgOk b3 → (c = 0 ∨ c = 1) → ∃ (cs' : List Int) (b' : Bg), (⟨[.bag, .val (.int (s : Nat)), .val (.tuple ((ringT s).map tD)), .val (.int (q : Nat)), s4, s5, .no], b3⟩ : Z) = ⟨[.bag, .val (.int (s : Nat)), .val (.tuple ((ringT s).map tD)), .val (.int (q : Nat)), s4, s5, .no], b'⟩ ∧ cs.map PyData.int ++ (some (PyData.int c)).toList = cs'.map PyData.int ∧ cs'.length = (dn ++ [i]).length ∧ (∀ c ∈ cs', c = 0 ∨ c = 1) ∧ BgOk b' := fun c b3 hb3 h01 => ⟨cs ++ [c], b3, rfl, by simp, by simp [hcl], fun x hx => by
        rcases List.mem_append.mp hx with hx | hx
        · exact hc x hx
        · simp at hx; rw [hx]; exact h01, hb3⟩
      simp_arith [nD_eq]
      refine brd (fun h => ?_) fun h => ?_
      · simp_arith
        refine ⟨by decide, ?_⟩
        exact fin _ b2 hb2 (by omega)
      · simp_arith
        refine w_draw (n + 8) 2 b2 (by omega) (by omega) hb2 _ fun r b3 hr hb3 => ?_
        simp_arith [nD_eq]
        exact fin _ b3 hb3 (by omega)
    · rintro acc ze hacc ⟨cs, b2, rfl, rfl, hcl, hc, hb2⟩
      rw [List.length_range] at hcl
      have hrl : (ringT s).length = s := by rw [hl]
      have hg := gdT_ints (ns := cs) (by omega)
      have hcd := colD_ints (ringT s) cs (by omega) (fun c hc' => by have := hc c hc'; omega)
      have hne : colErr (ringT s) cs ≠ .none := by
        rw [← hs]
        refine odd_ring fun i => ?_
        rcases Nat.lt_or_ge i cs.length with hlt | hge
        · exact hc _ (Mx.getD_mem hlt)
        · left; rw [List.getD_eq_getElem?_getD, List.getElem?_eq_none hge]; rfl
      have e1 : ∀ n b, run tab (n + 2) "_law_due_colours" [.d (.tuple ((ringT s).map tD)), .d (.tuple (cs.map PyData.int))] b = some (.d (colErr (ringT s) cs), b) := fun n b => by rw [← hcd]; exact r_due_colours n _ v1 (by omega) _ b hg
      have e2 : ∀ n b, run tab (n + 2) "colours_error" [.d (.tuple ((ringT s).map tD)), .d (.tuple (cs.map PyData.int))] b = some (.d (colErr (ringT s) cs), b) := fun n b => by rw [← hcd]; exact r_colours_error n _ v1 (by omega) _ b hg
      have e3 : ∀ n b, run tab (n + 2) "_law_same" [.d (colErr (ringT s) cs), .d (colErr (ringT s) cs)] b = some (.d (.bool true), b) := fun n b => by rw [← hcd]; exact r_same b n 1 _ (colD_pl _ _).1 (colD_pl _ _).2
      simp_arith [h4, h5, h6, e1, e2, e3, colErr_ne _ _ hne]
      exact ⟨_, _, _, _, _, rfl, rfl, rfl, rfl, h6, hb2⟩
  · rintro ze ⟨s3, s4, s5, s6, b1, rfl, h3, h4, h5, h6, hb1⟩
    have e1 : ∀ n b, run tab (n + 1) "is_forest" [.d (.tuple ((ringT s).map tD))] b = some (.d (.bool false), b) := fun n b => r_is_forest n _ v1 (by omega) b false ⟨(fun z => by cases z), (fun z => absurd z v2)⟩
    have e2 : ∀ n b, run tab (n + 1) "least_colours" [.d (.tuple ((ringT s).map tD))] b = some (.d (.tuple ((Mx.leastC (ringT s)).map nD)), b) := fun n b => r_least_colours n _ v1 (by omega) b
    have e3 : ∀ n b, run tab (n + 2) "_law_same" [.d (.bool false), .d (.bool false)] b = some (.d (.bool true), b) := fun n b => r_same b n 1 _ (by simp [plD]) (by simp [PyData.depth])
    have e4 : ∀ n b, run tab (n + 2) "_law_same" [.d (.int 2), .d (.int 2)] b = some (.d (.bool true), b) := fun n b => r_same b n 1 _ (by simp [plD]) (by simp [PyData.depth])
    have e5 := mms_max (Mx.leastC (ringT s)) v4
    rw [v3] at e5
    have e6 : mmS max [.tuple ((Mx.leastC (ringT s)).map nD)] = some (.d (.int 2)) := e5
    simp_arith [e1, e2, e3, e4, e6]
    exact hK _ hb1
end k83_whole_forests_towers

namespace k83_whole_forests_towers
open PySem PySem.Spec L2 Mz
def fullT (m : Nat) : Mx.Ties := (List.range m).map List.range
theorem fullT_succ (m : Nat) : fullT (m + 1) = fullT m ++ [List.range m] := by simp [fullT, List.range_succ]
theorem fullT_len (m : Nat) : (fullT m).length = m := by simp [fullT]
theorem fullT_vd (m : Nat) : Mx.Vd (fullT m) := by
  induction m with
  | zero => exact Mx.Vd.nil
  | succ m ih =>
    rw [fullT_succ]
    exact ih.snoc ⟨List.pairwise_lt_range, fun j hj => by rw [fullT_len]; simpa using hj⟩
theorem gJ_range (m : Nat) : Mx.gJ (List.range m) (List.range m) = List.range m := by
  unfold Mx.gJ
  have : ∀ j ∈ List.range m, (List.range m).getD j 0 = id j := fun j hj => by
    have := List.mem_range.mp hj
    simp [List.getD, this]
  rw [List.map_congr_left this, List.map_id]
theorem leastC_full (m : Nat) : Mx.leastC (fullT m) = List.range m := by
  induction m with
  | zero => rfl
  | succ m ih =>
    rw [fullT_succ, Mx.leastC_snoc, ih, List.range_succ]
    congr 2
    unfold Mx.leastRow
    rw [gJ_range, List.length_range]
    obtain ⟨h1, h2, _, _⟩ := Mx.mexL_spec (near := List.range m) (m := m + 1) (by simp)
    rcases Nat.lt_or_ge (Mx.mexL (List.range m) (m + 1)) m with q | q
    · exact absurd (List.mem_range.mpr q) h2
    · omega
theorem fo_full (m : Nat) : Mx.Fo (fullT m) ↔ m < 3 := by
  constructor
  · intro h
    rcases Nat.lt_or_ge m 3 with q | q
    · exact q
    · exfalso
      obtain ⟨k, rfl⟩ : ∃ k, m = 3 + k := ⟨m - 3, by omega⟩
      have : fullT (3 + k) = fullT 3 ++ (List.range k).map (fun i => List.range (3 + i)) := by
        unfold fullT
        rw [List.range_add, List.map_append, List.map_map]; rfl
      rw [this] at h
      have h3 := (foB_iff _).mpr h.pre
      exact absurd h3 (by decide +kernel)
  · intro h
    have : m = 0 ∨ m = 1 ∨ m = 2 := by omega
    rcases this with rfl | rfl | rfl <;> exact (foB_iff _).mp (by decide +kernel)
theorem fullT_row {m i : Nat} (h : i < m) : (fullT m).getD i [] = List.range i := by
  unfold fullT
  rw [Mx.getD_map (d := 0) (by simpa using h)]
  congr 1
  simp [List.getD, h]
theorem colErr_nil {ts : Mx.Ties} {cs : List Int} (h : ∀ i < ts.length, ∀ j ∈ ts.getD i [], cs.getD i 0 ≠ cs.getD j 0) : colErr ts cs = .none := by
  unfold colErr
  rw [find_miss]
  intro p hp
  obtain ⟨h1, h2⟩ := List.getElem?_eq_some_iff.mp (List.mk_mem_zipIdx_iff_getElem?.mp (show (p.1, p.2) ∈ ts.zipIdx from hp))
  have hr : ts.getD p.2 [] = p.1 := by rw [List.getD_eq_getElem?_getD, List.getElem?_eq_getElem h1, h2]; rfl
  have := h p.2 h1
  rw [hr] at this
  rw [List.find?_eq_none.mpr fun j hj => by simpa using this j hj]; rfl
theorem colErr_hit {l : Mx.Ties} {x : List Nat} {r : Mx.Ties} {cs : List Int} {j : Nat} (h : ∀ i < l.length, ∀ q ∈ l.getD i [], cs.getD i 0 ≠ cs.getD q 0) (hj : x.find? (fun q => decide (cs.getD l.length 0 = cs.getD q 0)) = some j) : colErr (l ++ x :: r) cs = .tuple [.str "tie", nD l.length, nD j] := by
  unfold colErr
  rw [List.zipIdx_append, List.zipIdx_cons, find_hit]
  · show PyData.tuple [.str "tie", nD (0 + l.length), nD ((x.find? fun q => decide (cs.getD (0 + l.length) 0 = cs.getD q 0)).getD 0)] = _
    rw [Nat.zero_add, hj]; rfl
  · intro p hp
    obtain ⟨h1, h2⟩ := List.getElem?_eq_some_iff.mp (List.mk_mem_zipIdx_iff_getElem?.mp (show (p.1, p.2) ∈ l.zipIdx from hp))
    have hr : l.getD p.2 [] = p.1 := by rw [List.getD_eq_getElem?_getD, List.getElem?_eq_getElem h1, h2]; rfl
    have := h p.2 h1
    rw [hr] at this
    rw [List.find?_eq_none.mpr fun j hj => by simpa using this j hj]; rfl
  · show (x.find? fun q => decide (cs.getD (0 + l.length) 0 = cs.getD q 0)).isSome = true
    rw [Nat.zero_add, hj]; rfl
theorem rgc_getD {m i : Nat} (h : i < m) : ((List.range m).map fun j : Nat => (j : Int)).getD i 0 = (i : Int) := by
  simp [List.getD, h]
theorem full_ok {m : Nat} : colErr (fullT m) ((List.range m).map fun j : Nat => (j : Int)) = .none := by
  refine colErr_nil fun i hi j hj => ?_
  rw [fullT_len] at hi
  rw [fullT_row hi] at hj
  have hj' : j < i := by simpa using hj
  rw [rgc_getD hi, rgc_getD (by omega)]; omega
theorem full_bent {m a j : Nat} (ha : a < m) (hj : j < a) : colErr (fullT m) (((List.range m).map fun j : Nat => (j : Int)).set a (j : Int)) = .tuple [.str "tie", nD a, nD j] := by
  have hl : ((List.range m).map fun j : Nat => (j : Int)).length = m := by simp
  have gs : ∀ i < m, (((List.range m).map fun j : Nat => (j : Int)).set a (j : Int)).getD i 0 = if i = a then (j : Int) else (i : Int) := fun i hi => by
    rw [getD_set _ _ _ _ _ (by omega), rgc_getD hi]
  have e : fullT m = fullT a ++ List.range a :: (List.range (m - a - 1)).map (fun i => List.range (a + 1 + i)) := by
    have : m = a + 1 + (m - a - 1) := by omega
    conv => lhs; rw [this]
    unfold fullT
    rw [List.range_add, List.range_succ, List.map_append, List.map_append, List.map_map, List.append_assoc]; rfl
  rw [e]
  have := colErr_hit (l := fullT a) (x := List.range a) (r := (List.range (m - a - 1)).map (fun i => List.range (a + 1 + i))) (cs := ((List.range m).map fun j : Nat => (j : Int)).set a (j : Int)) (j := j) ?_ ?_
  · rw [this, fullT_len]
  · intro i hi q hq
    rw [fullT_len] at hi
    rw [fullT_row hi] at hq
    have hq' : q < i := by simpa using hq
    rw [gs i (by omega), gs q (by omega), if_neg (by omega), if_neg (by omega)]; omega
  · rw [fullT_len, gs a ha, if_pos rfl]
    have hs : List.range a = List.range j ++ j :: (List.range (a - j - 1)).map (fun i => j + 1 + i) := by
      have : a = j + 1 + (a - j - 1) := by omega
      conv => lhs; rw [this]
      rw [List.range_add, List.range_succ, List.append_assoc]; rfl
    rw [hs, find_hit]
    · intro y hy
      have hy' : y < j := by simpa using hy
      rw [gs y (by omega), if_neg (by omega)]
      simp; omega
    · rw [gs j (by omega), if_neg (by omega)]; simp
theorem w_is_full (n : Nat) (m : Nat) (h2 : 2 ≤ m) (hm : m ≤ 64) (b : Bg) (hb : BgOk b) (K : R × Bg → Prop) (hK : ∀ b', BgOk b' → K (.d (.bool true), b')) : wR (run tab (n + 10) "_law_is_full" [.bag, .d (.int (m : Nat))] b) K := by
  rw [wRun f__law_is_full]
  simp_arith [d__law_is_full]
  refine wE_map (List.range m) nD (fun i => tD (List.range i)) ?_
  simp_arith [okI_nat (show m ≤ 1000000 by omega), rg_nat, List.length_range]
  refine ⟨by omega, ?_, ?_⟩
  · intro i hi
    have hi' : i < m := by simpa using hi
    simp_arith [nD_eq, okRg_nat (show i ≤ 1000000 by omega), rg_nat]
    rfl
  have e0 : (List.range m).map (fun i => tD (List.range i)) = (fullT m).map tD := by simp [fullT, Function.comp_def]
  rw [e0]
  simp_arith [okRg_nat (show m ≤ 1000000 by omega), rg_nat]
  refine w_draw (n + 8) _ b (by omega) (by omega) hb _ fun r b1 hr hb1 => ?_
  simp_arith [nD_eq]
  refine w_pick (n + 7) _ _ b1 (.inl rfl) (by simp) (by simp) hb1 _ fun a ha b2 hb2 => ?_
  obtain ⟨a, ha1, ha2, rfl⟩ : ∃ a' : Nat, 1 ≤ a' ∧ a' < m ∧ a = .int (a' : Nat) := by
    simp only [List.mem_cons, List.not_mem_nil, or_false] at ha
    rcases ha with rfl | rfl
    · exact ⟨m - 1, by omega, by omega, by congr 1; omega⟩
    · exact ⟨1 + r, by omega, by omega, by first | rfl | (congr 1; omega)⟩
  simp_arith
  refine w_draw (n + 8) _ b2 (by omega) (by omega) hb2 _ fun j b3 hj hb3 => ?_
  have hbent : (List.take a ((List.range m).map nD) ++ [PyData.int (j : Nat)]) ++ List.drop (a + 1) ((List.range m).map nD) = (((List.range m).map fun j : Nat => (j : Int)).set a (j : Int)).map PyData.int := by
    rw [List.set_eq_take_append_cons_drop, if_pos (by simpa using ha2)]
    simp [List.map_take, List.map_drop, Function.comp_def, nD]
    rfl
  have g1 := gdT_ints (ns := (List.range m).map fun j : Nat => (j : Int)) (by simp; omega)
  have g2 := gdT_ints (ns := ((List.range m).map fun j : Nat => (j : Int)).set a (j : Int)) (by simp; omega)
  have c1 := colD_ints (fullT m) ((List.range m).map fun j : Nat => (j : Int)) (by simp [fullT_len]) (by intro c hc; simp at hc; obtain ⟨x, _, rfl⟩ := hc; omega)
  have c2 := colD_ints (fullT m) (((List.range m).map fun j : Nat => (j : Int)).set a (j : Int)) (by simp [fullT_len]) (by
    intro c hc
    rcases List.mem_or_eq_of_mem_set hc with q | q
    · simp at q; obtain ⟨x, _, rfl⟩ := q; omega
    · omega)
  rw [full_ok] at c1
  rw [full_bent ha2 (by omega)] at c2
  have hv := fullT_vd m
  have hl := fullT_len m
  have e1 : ∀ n b, run tab (n + 1) "least_colours" [.d (.tuple ((fullT m).map tD))] b = some (.d (.tuple ((List.range m).map nD)), b) := fun n b => by rw [r_least_colours n _ hv (by omega) b, leastC_full]
  have e2 : ∀ n b, run tab (n + 2) "colours_error" [.d (.tuple ((fullT m).map tD)), .d (.tuple ((List.range m).map nD))] b = some (.d .none, b) := fun n b => by
    rw [nD_ints, ← c1]; exact r_colours_error n _ hv (by omega) _ b g1
  have e3 : ∀ n b, run tab (n + 2) "colours_error" [.d (.tuple ((fullT m).map tD)), .d (.tuple ((((List.range m).map fun j : Nat => (j : Int)).set a (j : Int)).map PyData.int))] b = some (.d (.tuple [.str "tie", .int (a : Nat), .int (j : Nat)]), b) := fun n b => by
    have := r_colours_error n _ hv (by omega) _ b g2
    rw [c2] at this; exact this
  have e4 : ∀ n b, run tab (n + 1) "is_forest" [.d (.tuple ((fullT m).map tD))] b = some (.d (.bool (decide ((m : Int) < 3))), b) := fun n b => r_is_forest n _ hv (by omega) b _ (by rw [decide_eq_true_eq, fo_full]; omega)
  have hp : plD (.tuple [.tuple ((List.range m).map nD), .none, .tuple [.str "tie", .int (a : Nat), .int (j : Nat)], .bool (decide ((m : Int) < 3))]) = true := by
    have := (plD_nats (l := List.range m) (by simp; omega)).1
    simp [plD, plA] at this ⊢
    exact this
  have hd : (PyData.tuple [.tuple ((List.range m).map nD), .none, .tuple [.str "tie", .int (a : Nat), .int (j : Nat)], .bool (decide ((m : Int) < 3))]).depth ≤ 2 := by
    have := (plD_nats (l := List.range m) (by simp; omega)).2
    simp only [PyData.depth, PyData.depthAll] at this ⊢
    omega
  have e5 : ∀ n b, run tab (n + 3) "_law_same" [.d (.tuple [.tuple ((List.range m).map nD), .none, .tuple [.str "tie", .int (a : Nat), .int (j : Nat)], .bool (decide ((m : Int) < 3))]), .d (.tuple [.tuple ((List.range m).map nD), .none, .tuple [.str "tie", .int (a : Nat), .int (j : Nat)], .bool (decide ((m : Int) < 3))])] b = some (.d (.bool true), b) := fun n b => r_same b n 2 _ hp hd
  simp_arith [nD_eq, cut_take, cut_drop1, List.length_map, List.length_take, List.length_drop, List.length_range, List.length_append, hbent]
  refine ⟨by omega, by omega, ?_⟩
  simp_arith [e1, e2, e3, e4, e5]
  exact hK _ hb3
end k83_whole_forests_towers

namespace k83_whole_forests_towers
open PySem PySem.Spec L2 Mz
theorem at_1 {α : Type} (a c : α) (l : List α) : atI (a :: c :: l) 1 = some c := by simpa using atI_nat (xs := a :: c :: l) (j := 1) a (by simp)
theorem at_2 {α : Type} (a c d : α) (l : List α) : atI (a :: c :: d :: l) 2 = some d := by simpa using atI_nat (xs := a :: c :: d :: l) (j := 2) a (by simp)
theorem at_3 {α : Type} (a c d e : α) (l : List α) : atI (a :: c :: d :: e :: l) 3 = some e := by simpa using atI_nat (xs := a :: c :: d :: e :: l) (j := 3) a (by simp)
theorem at_4 {α : Type} (a c d e f : α) (l : List α) : atI (a :: c :: d :: e :: f :: l) 4 = some f := by simpa using atI_nat (xs := a :: c :: d :: e :: f :: l) (j := 4) a (by simp)
theorem gd_row {r : List Nat} {m : Nat} (h : Mx.RowOk m r) (hm : m ≤ 64) : GD (10 ^ 40) 64 1 (tD r) := by
  have := (GA.ints (B := 10 ^ 40) (ns := r.map fun j : Nat => (j : Int)) (by intro i hi; simp at hi; obtain ⟨j, hj, rfl⟩ := hi; have := h.2 j hj; omega)).tup
  rw [tD, nD_ints]
  have hl := h.len
  exact this.mono (Nat.le_refl _) (by rw [List.length_map]; omega) (by omega)
theorem gd_ties {ts : Mx.Ties} (hv : Mx.Vd ts) (hl : ts.length ≤ 64) : GA (10 ^ 40) (ts.length * 65) 1 (ts.map tD) := by
  revert hv hl
  refine Mx.snoc_ind (P := fun ts : Mx.Ties => Mx.Vd ts → ts.length ≤ 64 → GA (10 ^ 40) (ts.length * 65) 1 (ts.map tD)) (fun _ _ => GA.nil.mono (Nat.zero_le _) (by simp) (by omega)) (fun l x ih hv hl => ?_) ts
  simp only [List.length_append, List.length_cons, List.length_nil] at hl
  have h1 := ih hv.pre (by omega)
  have h2 := GA.one (gd_row (Mx.Vd.last (r := []) hv) (by omega))
  rw [List.map_append]
  exact h1.cat h2 (by simp; omega) (Nat.le_refl _) (Nat.le_refl _)
theorem gd_tiesT {ts : Mx.Ties} (hv : Mx.Vd ts) (hl : ts.length ≤ 64) : GD (10 ^ 40) 4200 2 (.tuple (ts.map tD)) := (gd_ties hv hl).tup.mono (Nat.le_refl _) (by omega) (Nat.le_refl _)
theorem plOk_row {r : List Nat} {i : Nat} (h : Mx.RowOk i r) : plOk (tD r) i = true := by
  show (((r.map nD).all fun d => inR d 0 ((i : Int) - 1)) && incr ((r.map nD).map toI)) = true
  rw [Bool.and_eq_true]
  constructor
  · rw [List.all_map, List.all_eq_true]
    intro j hj
    have := h.2 j hj
    show (decide ((0 : Int) ≤ (j : Int)) && decide ((j : Int) ≤ (i : Int) - 1)) = true
    simp; omega
  · have e : (r.map nD).map toI = r.map fun j : Nat => (j : Int) := by rw [List.map_map]; rfl
    rw [e]
    have hp := h.1
    clear h e
    unfold incr
    induction r with
    | nil => rfl
    | cons a r ih =>
      obtain ⟨h1, h2⟩ := List.pairwise_cons.mp hp
      have ih := ih h2
      cases r with
      | nil => rfl
      | cons c r =>
        have := h1 c (by simp)
        simp only [List.map_cons, List.tail_cons, List.zip_cons_cons, List.all_cons, Bool.and_eq_true, decide_eq_true_eq] at ih ⊢
        exact ⟨by omega, ih⟩
theorem tieErr_ok {ts : Mx.Ties} (hv : Mx.Vd ts) (hl : ts.length ≤ 64) : tieErr (.tuple (ts.map tD)) = .none := by
  unfold tieErr
  have h1 : (ts.map tD).length ≤ 64 ∧ (ts.map tD).all isTup = true := ⟨by rw [List.length_map]; exact hl, by rw [List.all_map, List.all_eq_true]; intro r _; rfl⟩
  simp only [h1, and_self, if_true]
  rw [find_miss]
  intro p hp
  obtain ⟨h1, h2⟩ := List.getElem?_eq_some_iff.mp (List.mk_mem_zipIdx_iff_getElem?.mp (show (p.1, p.2) ∈ (ts.map tD).zipIdx from hp))
  rw [List.length_map] at h1
  have hr := vd_row hv p.2
  rw [List.getD_eq_getElem?_getD, List.getElem?_eq_getElem h1] at hr
  simp only [Option.getD_some] at hr
  rw [List.getElem_map] at h2
  rw [← h2]
  rw [plOk_row hr]; rfl
theorem sum_len (ts : Mx.Ties) : (ts.map fun r => ((r.length : Nat) : Int)).sum = (((ts.map List.length).sum : Nat) : Int) := by
  induction ts with
  | nil => rfl
  | cons a r ih => rw [List.map_cons, List.sum_cons, ih, List.map_cons, List.sum_cons]; omega
theorem two_none {ts : Mx.Ties} (hv : Mx.Vd ts) (hf : Mx.Fo ts) : colErr ts (Mx.twoC ts) = .none := by
  refine colErr_nil fun i hi j hj => ?_
  have e : ts = ts.take i ++ ts.getD i [] :: ts.drop (i + 1) := by
    rw [List.getD_eq_getElem?_getD, List.getElem?_eq_getElem hi]
    show ts = ts.take i ++ ts[i] :: ts.drop (i + 1)
    rw [List.getElem_cons_drop, List.take_append_drop]
  have := (Mx.two_proper hv hf _ _ _ e j hj).2
  rw [List.length_take, Nat.min_eq_left (by omega)] at this
  exact Ne.symm this
theorem pl_pair {x y : PyData} {k : Nat} (h1 : plD x = true ∧ x.depth ≤ k) (h2 : plD y = true ∧ y.depth ≤ k) : plD (.tuple [x, y]) = true ∧ (PyData.tuple [x, y]).depth ≤ k + 1 := by
  obtain ⟨a1, a2⟩ := h1
  obtain ⟨c1, c2⟩ := h2
  simp only [plD, plA, a1, c1, PyData.depth, PyData.depthAll, List.length_cons, List.length_nil, Bool.and_true, decide_eq_true_eq]
  exact ⟨by omega, by omega⟩
theorem pl_bool (p : Bool) (k : Nat) : plD (.bool p) = true ∧ (PyData.bool p).depth ≤ k := by simp [plD, PyData.depth]
theorem pl_none (k : Nat) : plD .none = true ∧ PyData.none.depth ≤ k := by simp [plD, PyData.depth]
theorem w_read (n : Nat) (ts : Mx.Ties) (hv : Mx.Vd ts) (hl : ts.length ≤ 64) (t : Nat) (ht : Mx.Tw ts.length ts t) (b : Bg) (hb : BgOk b) (K : R × Bg → Prop) (hK : ∀ b', BgOk b' → K (.d (.bool true), b')) : wR (run tab (n + 10) "_law_read" [.bag, .d (.tuple (ts.map tD)), .d (.list (factD ts t))] b) K := by
  rw [wRun f__law_read]
  obtain ⟨fo1, fo2⟩ := ht.fo
  obtain ⟨ps1, ps2⟩ := Mx.parts_sum hv
  have hrep := (gd_tiesT hv hl).show (by decide) (by omega) (by omega)
  have hll := Mx.leastC_len ts
  have htl := Mx.twoC_len ts
  have hjl := Mx.joinC_len ts
  have e1 : ∀ n b, run tab (n + 1) "is_forest" [.d (.tuple (ts.map tD))] b = some (.d (.bool (decide ((t : Int) = (ts.length : Int)))), b) := fun n b => r_is_forest n ts hv hl b _ (by rw [decide_eq_true_eq, ← fo1]; omega)
  have e2 : ∀ n b, run tab (n + 1) "least_colours" [.d (.tuple (ts.map tD))] b = some (.d (.tuple ((Mx.leastC ts).map nD)), b) := fun n b => r_least_colours n ts hv hl b
  have pl := plD_nats (l := Mx.leastC ts) (by omega)
  have s1 : ∀ p : Bool, ∀ n b, run tab (n + 2) "_law_same" [.d (.tuple [.bool p, .bool p]), .d (.tuple [.bool p, .bool p])] b = some (.d (.bool true), b) := fun p n b => have h := pl_pair (pl_bool p 0) (pl_bool p 0); r_same b n 1 _ h.1 h.2
  have s2 : ∀ n b, run tab (n + 3) "_law_same" [.d (.tuple [.tuple ((Mx.leastC ts).map nD), .tuple ((Mx.leastC ts).map nD)]), .d (.tuple [.tuple ((Mx.leastC ts).map nD), .tuple ((Mx.leastC ts).map nD)])] b = some (.d (.bool true), b) := fun n b => have h := pl_pair pl pl; r_same b n 2 _ h.1 h.2
  have hpar : ((t : Int) = (ts.length : Int)) ↔ ((Mx.card (Mx.partC ts) : Nat) : Int) = (ts.length : Int) - (((ts.map List.length).sum : Nat) : Int) := by
    constructor
    · intro h
      have := ps2.mpr (fo1.mp (by omega)); omega
    · intro h
      have := fo1.mpr (ps2.mp (by omega)); omega
  simp_arith! [d__law_read]
  rw [Mz.ws_cons]
  refine wS_mid (fun z => z = ⟨[.bag, .val (.tuple (ts.map tD)), .val (.list (factD ts t)), .no, .no, .val (nD (Mx.card (Mx.partC ts))), .val (.tuple ((Mx.leastC ts).map nD)), .val (.list ((Mx.joinC ts).map nD)), .val (.str (PyData.tuple (ts.map tD)).shown), .no, .no, .no, .no, .no], b⟩) ?_ ?_
  · simp_arith [factD, at_1, at_2, at_4, hrep]
  rintro z rfl
  simp_arith [factD, at0, nD_eq, List.length_map]
  refine wE_map ts tD (fun r => .int ((r.length : Nat) : Int)) ?_
  simp_arith
  refine ⟨by omega, ?_, ?_⟩
  · intro r hr
    simp_arith [tD, List.length_map]
  have hbeq : (decide ((t : Int) = (ts.length : Int)) == decide (((Mx.card (Mx.partC ts) : Nat) : Int) = (ts.length : Int) - (((ts.map List.length).sum : Nat) : Int))) = true := by
    have e : decide ((t : Int) = (ts.length : Int)) = decide (((Mx.card (Mx.partC ts) : Nat) : Int) = (ts.length : Int) - (((ts.map List.length).sum : Nat) : Int)) := decide_eq_decide.mpr hpar
    rw [e]; exact beq_self_eq_true _
  simp_arith [ints_f (fun r : List Nat => ((r.length : Nat) : Int)), sum_len, hbeq, e1, s1, e2, s2]
  refine wE_map ((Mx.leastC ts).zip ts) (fun p => .tuple [nD p.1, tD p.2]) (fun p => .bool (decide ((p.1 : Int) ≤ (p.2.length : Int)))) ?_
  simp_arith [zip_map]
  refine ⟨by rw [List.length_zip]; omega, ?_, ?_⟩
  · intro p hp
    simp_arith [nD_eq, tD, List.length_map]
  have hall : ((Mx.leastC ts).zip ts).all (fun p => decide ((p.1 : Int) ≤ (p.2.length : Int))) = true := by
    rw [List.all_eq_true]
    intro p hp
    have := Mx.least_le ts p hp
    simp; omega
  simp_arith [bls_f, all_id, hall]
  refine wS_for ((Mx.leastC ts).zip (Mx.joinC ts)) (fun p => .tuple [nD p.1, nD p.2]) (fun done z => ∃ s11 s12, z = ⟨[.bag, .val (.tuple (ts.map tD)), .val (.list (factD ts t)), .val (.bool (decide ((t : Int) = (ts.length : Int)))), .no, .val (.int ((Mx.card (Mx.partC ts) : Nat) : Int)), .val (.tuple ((Mx.leastC ts).map nD)), .val (.list ((Mx.joinC ts).map nD)), .val (.str (PyData.tuple (ts.map tD)).shown), .val (.tuple ((Mx.leastC ts).map nD)), .val (.tuple ((Mx.leastC ts).map nD)), s11, s12, .no], b⟩ ∧ quietB s11 = true ∧ quietB s12 = true) ?_
  simp_arith [zip_map]
  refine ⟨⟨_, _, rfl, rfl, rfl⟩, ?_, ?_⟩
  · rintro done p rest zc hx ⟨s11, s12, rfl, h11, h12⟩
    have hp : p ∈ (Mx.leastC ts).zip (Mx.joinC ts) := by rw [hx]; simp
    simp_arith [h11, h12, nD_eq]
    refine brd (fun q => ?_) fun q => ?_
    · have hfo := fo1.mp (by omega)
      have h2 := (Mx.forest_size hv hfo).2 p hp
      have h64 : p.2 ≤ 64 := by
        have hm := (List.of_mem_zip hp).2
        have : ∀ ts : Mx.Ties, ∀ x ∈ Mx.joinC ts, x ≤ ts.length := by
          intro ts
          refine Mx.snoc_ind (P := fun ts : Mx.Ties => ∀ x ∈ Mx.joinC ts, x ≤ ts.length) (by simp [Mx.joinC]) (fun l y ih x hx => ?_) ts
          rw [Mx.joinC_snoc] at hx
          rcases List.mem_append.mp hx with hx | hx
          · have := ih x hx; simp; omega
          · simp at hx
            rw [hx]
            refine Nat.le_trans (List.count_le_length) ?_
            simp [Mx.pStep, Mx.partC_len]
        have := this ts p.2 hm
        omega
      have h6 : p.1 ≤ 6 := by
        rcases Nat.lt_or_ge 6 p.1 with z | z
        · have : 2 ^ 7 ≤ 2 ^ p.1 := Nat.pow_le_pow_right (by omega) z
          omega
        · exact z
      have e3 : ∀ n b, run tab (n + 2) "fewest_knots" [.d (.int (p.1 : Nat))] b = some (.d (.int (2 ^ p.1)), b) := fun n b => r_fewest_knots n p.1 h6 b
      have h3 : (2 : Int) ^ p.1 ≤ (p.2 : Int) := by exact_mod_cast h2
      simp_arith [e3, h3, decide_true, factD]
      exact ⟨_, _, rfl, rfl, rfl⟩
    · simp_arith [factD]
      exact ⟨_, _, rfl, rfl, rfl⟩
  rintro ze ⟨s11, s12, rfl, h11, h12⟩
  simp_arith [List.length_map]
  refine w_draw (n + 8) _ b (by omega) (by omega) hb _ fun a b1 ha hb1 => ?_
  have hva : Mx.Vd (ts.take a) := by
    have := hv
    rw [← List.take_append_drop a ts] at this
    exact this.pre
  have hla : (ts.take a).length ≤ 64 := by rw [List.length_take]; omega
  have e4 : ∀ n b, run tab (n + 1) "least_colours" [.d (.tuple ((ts.take a).map tD))] b = some (.d (.tuple (((Mx.leastC ts).take a).map nD)), b) := fun n b => by rw [r_least_colours n _ hva hla b, Mx.leastC_take]
  have e5 : ∀ n b, run tab (n + 1) "is_forest" [.d (.tuple ((ts.take a).map tD))] b = some (.d (.bool (decide ((a : Int) ≤ (t : Int)))), b) := fun n b => r_is_forest n _ hva hla b _ (by rw [decide_eq_true_eq, fo2 a (by omega)]; omega)
  have s3 : ∀ n b, run tab (n + 3) "_law_same" [.d (.tuple [.tuple (((Mx.leastC ts).take a).map nD), .bool (decide ((a : Int) ≤ (t : Int)))]), .d (.tuple [.tuple (((Mx.leastC ts).take a).map nD), .bool (decide ((a : Int) ≤ (t : Int)))])] b = some (.d (.bool true), b) := fun n b => have h := pl_pair (plD_nats (l := (Mx.leastC ts).take a) (by rw [List.length_take]; omega)) (pl_bool (decide ((a : Int) ≤ (t : Int))) 1); r_same b n 2 _ h.1 h.2
  have e6 : ∀ n b, run tab (n + 4) "ties_error" [.d (.tuple (ts.map tD))] b = some (.d .none, b) := fun n b => by
    rw [← tieErr_ok hv hl]; exact r_ties_error n _ b ((gd_tiesT hv hl).gdT (by omega))
  have s4 : ∀ n b, run tab (n + 3) "_law_same" [.d (.tuple [.tuple ((Mx.leastC ts).map nD), .none]), .d (.tuple [.tuple ((Mx.leastC ts).map nD), .none])] b = some (.d (.bool true), b) := fun n b => have h := pl_pair pl (pl_none 1); r_same b n 2 _ h.1 h.2
  simp_arith [nD_eq, cut_take, map_take', e4, e5, factD, at0, s3]
  refine brd (fun q => ?_) fun q => ?_
  · have hfo := fo1.mp (by omega)
    have h01 := Mx.twoC_01 ts
    have e7 : ∀ n b, run tab (n + 1) "two_colours" [.d (.tuple (ts.map tD))] b = some (.d (.tuple ((Mx.twoC ts).map PyData.int)), b) := fun n b => r_two_colours n ts hv hl b
    have hcd := colD_ints ts (Mx.twoC ts) htl (fun c hc => by have := h01 c hc; omega)
    rw [two_none hv hfo] at hcd
    have hg := gdT_ints (ns := Mx.twoC ts) (by omega)
    have e8 : ∀ n b, run tab (n + 2) "_law_due_colours" [.d (.tuple (ts.map tD)), .d (.tuple ((Mx.twoC ts).map PyData.int))] b = some (.d .none, b) := fun n b => by rw [← hcd]; exact r_due_colours n ts hv hl _ b hg
    have e9 : ∀ n b, run tab (n + 2) "colours_error" [.d (.tuple (ts.map tD)), .d (.tuple ((Mx.twoC ts).map PyData.int))] b = some (.d .none, b) := fun n b => by rw [← hcd]; exact r_colours_error n ts hv hl _ b hg
    have pt := plD_ints (ns := Mx.twoC ts) (by omega)
    have s5 : ∀ n b, run tab (n + 2) "_law_same" [.d (.tuple ((Mx.twoC ts).map PyData.int)), .d (.tuple ((Mx.twoC ts).map PyData.int))] b = some (.d (.bool true), b) := fun n b => r_same b n 1 _ pt.1 pt.2
    have s6 : ∀ n b, run tab (n + 2) "_law_same" [.d .none, .d .none] b = some (.d (.bool true), b) := fun n b => r_same b n 1 _ (pl_none 1).1 (pl_none 1).2
    simp_arith [e7, e8]
    refine wE_map (Mx.twoC ts) PyData.int (fun c => .bool (decide (0 ≤ c) && decide (c ≤ 1))) ?_
    simp_arith [h11, h12]
    refine ⟨by omega, ?_, ?_⟩
    · intro c hc
      simp_arith
      refine brd (fun h => ?_) fun h => ?_ <;> simp_arith [h, Bool.true_and, Bool.false_and, decide_true, decide_false]
    have hall2 : (Mx.twoC ts).all (fun c => decide (0 ≤ c) && decide (c ≤ 1)) = true := by
      rw [List.all_eq_true]
      intro c hc
      rcases h01 c hc with z | z <;> rw [z] <;> rfl
    simp_arith [bls_f, all_id, hall2, s5, e9, s6, e2, e6, s4, hrep]
    exact hK _ hb1
  · simp_arith [e2, e6, s4, hrep]
    exact hK _ hb1
end k83_whole_forests_towers

namespace k83_whole_forests_towers
open PySem PySem.Spec L2 Mz
theorem gd_nats {l : List Nat} {m : Nat} (hl : l.length ≤ m) (h : ∀ j ∈ l, j ≤ 100) : GD (10 ^ 40) m 1 (.tuple (l.map nD)) := by
  rw [nD_ints]
  refine (gd_ints (B := 10 ^ 40) (ns := l.map fun j : Nat => (j : Int)) ?_).mono (Nat.le_refl _) (by rw [List.length_map]; exact hl) (Nat.le_refl _)
  intro i hi
  simp at hi; obtain ⟨j, hj, rfl⟩ := hi
  have := h j hj
  omega
theorem gd_mk {ns : List Int} {m : Nat} (hl : ns.length ≤ m) (h : ∀ i ∈ ns, i.natAbs < 10 ^ 40) : GD (10 ^ 40) m 1 (.tuple (ns.map PyData.int)) := (gd_ints h).mono (Nat.le_refl _) hl (Nat.le_refl _)
def pad64 : List PyData := (List.replicate 64 ([] : List Nat)).map tD
theorem g_one {i : Int} (h : i.natAbs < 100) : GD (10 ^ 40) 3 1 (.tuple [.int i]) := ⟨by simp only [gdB, gdA, Bool.and_true, decide_eq_true_eq]; omega, by simp [PyData.bulk, PyData.bulkAll], by simp [PyData.depth, PyData.depthAll]⟩
theorem g_two {i j : Int} (h : i.natAbs < 100) (h' : j.natAbs < 100) : GD (10 ^ 40) 3 1 (.tuple [.int i, .int j]) := ⟨by simp only [gdB, gdA, Bool.and_true, Bool.and_eq_true, decide_eq_true_eq]; constructor <;> omega, by simp [PyData.bulk, PyData.bulkAll], by simp [PyData.depth, PyData.depthAll]⟩
theorem GA.cut {B n k : Nat} {xs : List PyData} (h : GA B n k xs) (lo hi : Option Int) : GA B n k (cutD xs lo hi) := (h.drop _).take _
theorem cut_len (xs : List PyData) (lo hi : Option Int) : (cutD xs lo hi).length ≤ xs.length := by
  unfold cutD; rw [List.length_take, List.length_drop]; omega
theorem cut63 (xs : List PyData) : cutD xs none (some 63) = xs.take 63 := cut_take xs 63
theorem cut1 (xs : List PyData) : cutD xs none (some 1) = xs.take 1 := cut_take xs 1
theorem t64 : tmulD (.tuple [.tuple []]) (.int 64) = some (.d (.tuple pad64)) := by kernel_rfl
theorem pad64_len : pad64.length = 64 := by simp [pad64]
theorem vd_pad {ts : Mx.Ties} (hv : Mx.Vd ts) (n : Nat) : Mx.Vd (ts ++ List.replicate n []) := by
  induction n with
  | zero => simpa using hv
  | succ n ih =>
    rw [List.replicate_succ', ← List.append_assoc]
    exact ih.snoc ⟨List.Pairwise.nil, by simp⟩
theorem w_spoils (n : Nat) (ts : Mx.Ties) (hv : Mx.Vd ts) (hl : ts.length ≤ 64) (b : Bg) (hb : BgOk b) (K : R × Bg → Prop) (hK : ∀ b', BgOk b' → K (.d (.bool true), b')) : wR (run tab (n + 25) "_law_spoils" [.bag, .d (.tuple (ts.map tD)), .d (.tuple ((Mx.leastC ts).map nD)), .d (.tuple ((Mx.twoC ts).map PyData.int))] b) K := by
  rw [wRun f__law_spoils]
  have hll := Mx.leastC_len ts
  have htl := Mx.twoC_len ts
  have hlv : ∀ c ∈ Mx.leastC ts, c ≤ 64 := by
    have : ∀ ts : Mx.Ties, Mx.Vd ts → ∀ c ∈ Mx.leastC ts, c ≤ ts.length := by
      intro ts
      refine Mx.snoc_ind (P := fun ts : Mx.Ties => Mx.Vd ts → ∀ c ∈ Mx.leastC ts, c ≤ ts.length) (by simp [Mx.leastC]) (fun l x ih hv c hc => ?_) ts
      rw [Mx.leastC_snoc] at hc
      rcases List.mem_append.mp hc with hc | hc
      · have := ih hv.pre c hc; simp; omega
      · simp at hc
        have h1 := (Mx.leastRow_spec (Mx.leastC l) x).1
        have h2 := (Mx.Vd.last (r := []) hv).len
        simp; omega
    intro c hc
    have := this ts hv c hc
    omega
  have hLm : ∀ j, (Mx.leastC ts).getD j 0 ≤ 64 := fun j => by
    rcases Nat.lt_or_ge j (Mx.leastC ts).length with q | q
    · exact hlv _ (Mx.getD_mem q)
    · rw [List.getD_eq_getElem?_getD, List.getElem?_eq_none q]; exact Nat.zero_le _
  simp_arith [d__law_spoils, addS_list]
  refine wE_map (Mx.leastC ts) nD (fun c => .int ((c : Int) + 10 ^ Int.toNat 39)) ?_
  simp_arith
  refine ⟨by omega, ?_, ?_⟩
  · intro c hc
    simp_arith [nD_eq]
    decide
  refine wE_map (Mx.leastC ts) nD (fun c => .int ((c : Int) / 2)) ?_
  simp_arith
  refine ⟨by omega, ?_, ?_⟩
  · intro c hc
    simp_arith [nD_eq]
    decide
  simp_arith [cut_init, map_dropLast', List.length_map, List.length_dropLast, okRg_nat (show ts.length ≤ 1000000 by omega), rg_nat]
  refine ⟨by omega, by omega, ?_⟩
  refine wE_comp ts.zipIdx (fun p => .tuple [nD p.2, tD p.1]) (fun p => !p.1.isEmpty) (fun p => nD p.2) ?_
  simp_arith [enum_map]
  refine ⟨by rw [List.length_zipIdx]; omega, ?_, ?_⟩
  · intro p hp
    simp_arith [tD, List.isEmpty_map]
    cases hq : p.1.isEmpty
    · simp_arith
    · simp_arith
  have hT0 : (ts.zipIdx.filter fun p => !p.1.isEmpty).map (fun p => nD p.2) = ((ts.zipIdx.filter fun p => !p.1.isEmpty).map (·.2)).map nD := by rw [List.map_map]; rfl
  rw [hT0]
  have hT : ∀ i ∈ (ts.zipIdx.filter fun p => !p.1.isEmpty).map (·.2), i < ts.length ∧ ts.getD i [] ≠ [] := by
    intro i hi
    obtain ⟨p, hp, rfl⟩ := List.mem_map.mp hi
    obtain ⟨hp1, hp2⟩ := List.mem_filter.mp hp
    obtain ⟨h1, h2⟩ := List.getElem?_eq_some_iff.mp (List.mk_mem_zipIdx_iff_getElem?.mp (show (p.1, p.2) ∈ ts.zipIdx from hp1))
    refine ⟨h1, ?_⟩
    rw [List.getD_eq_getElem?_getD, List.getElem?_eq_getElem h1, h2]
    intro z
    simp only [Option.getD_some] at z
    rw [z] at hp2; cases hp2
  have hTl : ((ts.zipIdx.filter fun p => !p.1.isEmpty).map (·.2)).length ≤ 64 := by
    rw [List.length_map]
    refine Nat.le_trans (List.length_filter_le ..) ?_
    rw [List.length_zipIdx]; exact hl
  generalize (ts.zipIdx.filter fun p => !p.1.isEmpty).map (·.2) = T at *
  have g0 : ∀ d ∈ ([.tuple ((Mx.twoC ts).map PyData.int), .tuple ((Mx.leastC ts).map fun c : Nat => .int ((c : Int) + 10 ^ Int.toNat 39)), .tuple ((Mx.leastC ts).map fun c : Nat => .int ((c : Int) / 2)), .tuple ((Mx.leastC ts).map nD ++ [.int 0]), .tuple ((Mx.leastC ts).dropLast.map nD ++ [.int (-1)]), .tuple ((List.range ts.length).map nD)] : List PyData), GD (10 ^ 40) 100 1 d := by
    intro d hd
    simp only [List.mem_cons, List.not_mem_nil, or_false] at hd
    rcases hd with rfl | rfl | rfl | rfl | rfl | rfl
    · exact gd_mk (by omega) (fun i hi => by rcases Mx.twoC_01 ts i hi with z | z <;> rw [z] <;> decide)
    · rw [show ((Mx.leastC ts).map fun c : Nat => PyData.int ((c : Int) + 10 ^ Int.toNat 39)) = ((Mx.leastC ts).map fun c : Nat => (c : Int) + 10 ^ Int.toNat 39).map PyData.int by rw [List.map_map]; rfl]
      refine gd_mk (by rw [List.length_map]; omega) fun i hi => ?_
      obtain ⟨c, hc, rfl⟩ := List.mem_map.mp hi
      have := hlv c hc
      have e : (10 : Int) ^ Int.toNat 39 = 1000000000000000000000000000000000000000 := by decide
      rw [e]
      omega
    · rw [show ((Mx.leastC ts).map fun c : Nat => PyData.int ((c : Int) / 2)) = ((Mx.leastC ts).map fun c : Nat => (c : Int) / 2).map PyData.int by rw [List.map_map]; rfl]
      refine gd_mk (by rw [List.length_map]; omega) fun i hi => ?_
      obtain ⟨c, hc, rfl⟩ := List.mem_map.mp hi
      have := hlv c hc
      omega
    · rw [nD_ints, show ((Mx.leastC ts).map fun j : Nat => (j : Int)).map PyData.int ++ [PyData.int 0] = ((Mx.leastC ts).map (fun j : Nat => (j : Int)) ++ [0]).map PyData.int by simp]
      refine gd_mk (by simp; omega) fun i hi => ?_
      rcases List.mem_append.mp hi with hi | hi
      · obtain ⟨c, hc, rfl⟩ := List.mem_map.mp hi
        have := hlv c hc
        omega
      · simp at hi; omega
    · rw [nD_ints, show ((Mx.leastC ts).dropLast.map fun j : Nat => (j : Int)).map PyData.int ++ [PyData.int (-1)] = ((Mx.leastC ts).dropLast.map (fun j : Nat => (j : Int)) ++ [-1]).map PyData.int by simp]
      refine gd_mk (by simp; omega) fun i hi => ?_
      rcases List.mem_append.mp hi with hi | hi
      · obtain ⟨c, hc, rfl⟩ := List.mem_map.mp hi
        have := hlv c (by rw [List.dropLast_eq_take] at hc; exact List.mem_of_mem_take hc)
        omega
      · simp at hi; omega
    · exact gd_nats (by simp; omega) fun j hj => by simp at hj; omega
  have g1 : GD (10 ^ 40) 100 1 (.tuple ((Mx.leastC ts).map nD)) := gd_nats (by omega) fun j hj => by have := hlv j hj; omega
  have gsw : ∀ i j, GD (10 ^ 40) 100 1 (.tuple ((((Mx.leastC ts).take i).map nD ++ [nD ((Mx.leastC ts).getD j 0)]) ++ ((Mx.leastC ts).drop (i + 1)).map nD)) := fun i j => by
    rw [show (((Mx.leastC ts).take i).map nD ++ [nD ((Mx.leastC ts).getD j 0)]) ++ ((Mx.leastC ts).drop (i + 1)).map nD = (((Mx.leastC ts).take i ++ [(Mx.leastC ts).getD j 0]) ++ (Mx.leastC ts).drop (i + 1)).map nD by simp]
    refine gd_nats (by simp; omega) fun q hq => ?_
    rcases List.mem_append.mp hq with hq | hq
    · rcases List.mem_append.mp hq with hq | hq
      · have := hlv q (List.mem_of_mem_take hq); omega
      · simp only [List.mem_cons, List.not_mem_nil, or_false] at hq; have := hLm j; omega
    · have := hlv q (List.mem_of_mem_drop hq); omega
  let some0 : List PyData := [.tuple ((Mx.twoC ts).map PyData.int), .tuple ((Mx.leastC ts).map fun c : Nat => .int ((c : Int) + 10 ^ Int.toNat 39)), .tuple ((Mx.leastC ts).map fun c : Nat => .int ((c : Int) / 2)), .tuple ((Mx.leastC ts).map nD ++ [.int 0]), .tuple ((Mx.leastC ts).dropLast.map nD ++ [.int (-1)]), .tuple ((List.range ts.length).map nD)]
  refine wS_mid (fun z => ∃ s6 s7 s8 rest b', z = ⟨[.bag, .val (.tuple (ts.map tD)), .val (.tuple ((Mx.leastC ts).map nD)), .val (.tuple ((Mx.twoC ts).map PyData.int)), .own (.tuple ((Mx.leastC ts).map nD) :: rest), .own (T.map nD), s6, s7, s8, .no, .no, .no, .no, .no], b'⟩ ∧ quietB s6 = true ∧ quietB s7 = true ∧ quietB s8 = true ∧ rest.length ≤ 300 ∧ (∀ d ∈ rest, GD (10 ^ 40) 100 1 d) ∧ BgOk b') ?_ ?_
  · refine wS_for (T.drop (T.length - 1) ++ T.take 1) nD (fun done z => ∃ s6 s7 s8 rest b', z = ⟨[.bag, .val (.tuple (ts.map tD)), .val (.tuple ((Mx.leastC ts).map nD)), .val (.tuple ((Mx.twoC ts).map PyData.int)), .own (.tuple ((Mx.leastC ts).map nD) :: rest), .own (T.map nD), s6, s7, s8, .no, .no, .no, .no, .no], b'⟩ ∧ quietB s6 = true ∧ quietB s7 = true ∧ quietB s8 = true ∧ rest.length = 6 + 2 * done.length ∧ (∀ d ∈ rest, GD (10 ^ 40) 100 1 d) ∧ BgOk b') ?_
    simp_arith [cut_last, cut_take (k := 1), show ∀ xs : List PyData, cutD xs none (some 1) = xs.take 1 from fun xs => cut_take xs 1, List.length_map, map_drop', map_take', List.length_drop, List.length_take]
    refine ⟨by omega, by rw [List.map_append], ⟨_, _, _, some0, _, rfl, rfl, rfl, rfl, rfl, g0, hb⟩, ?_, ?_⟩
    · rintro done i rest' zc hx ⟨s6, s7, s8, rest, b1, rfl, h6, h7, h8, hrl, hr, hb1⟩
      have him : i ∈ T := by
        have : i ∈ T.drop (T.length - 1) ++ T.take 1 := by rw [hx]; simp
        rcases List.mem_append.mp this with q | q
        · exact List.mem_of_mem_drop q
        · exact List.mem_of_mem_take q
      have hdl : done.length ≤ 64 + 1 := by have := congrArg List.length hx; simp at this; omega
      obtain ⟨i1, i2⟩ := hT i him
      have hw := vd_row hv i
      have hwl := hw.len
      have e5 : atI (ts.map tD) (i : Int) = some (.tuple ((ts.getD i []).map nD)) := by
        rw [atI_nat (tD []) (by rw [List.length_map]; exact i1), Mx.getD_map (d := []) i1]; rfl
      simp_arith [h6, h7, h8, nD_eq, e5]
      refine w_pick (n + 22) _ _ b1 (.inr rfl) (by simpa using i2) (by rw [List.length_map]; omega) hb1 _ fun a ha b2 hb2 => ?_
      obtain ⟨j, hj, rfl⟩ := List.mem_map.mp ha
      have hji := hw.2 j hj
      simp_arith [h8, nD_eq, cut_take, cut_drop1, map_take', map_drop', at_map 0 (show j < (Mx.leastC ts).length by omega), at_map 0 (show i < (Mx.leastC ts).length by omega), List.length_map, List.length_append, List.length_take, List.length_drop]
      refine ⟨by omega, by omega, by omega, by omega, by omega, by omega, _, _, _, _, _, rfl, rfl, h7, rfl, by simp [hrl]; omega, ?_, hb2⟩
      intro d hd
      rcases List.mem_append.mp hd with hd | hd
      · rcases List.mem_append.mp hd with hd | hd
        · exact hr d hd
        · rw [List.mem_singleton.mp hd]; exact gsw i j
      · rw [List.mem_singleton.mp hd]; exact gsw j i
    · rintro ze ⟨s6, s7, s8, rest, b1, rfl, h6, h7, h8, hrl, hr, hb1⟩
      simp_arith
      have : (T.drop (T.length - 1) ++ T.take 1).length ≤ 65 := by simp; omega
      exact ⟨_, _, _, _, _, rfl, h6, h7, h8, by omega, hr, hb1⟩
  rintro z ⟨s6, s7, s8, rest, b1, rfl, h6, h7, h8, hrl, hr, hb1⟩
  simp_arith
  refine w_judged (n + 4) (some ts) (fun ts' e => by cases e; exact ⟨hv, hl⟩) (.tuple ((Mx.leastC ts).map nD) :: rest) _ _ rfl 7 (by omega) (10 ^ 40) 100 1 (by decide) (by decide) (by omega) (by omega) (by simp; omega) (fun d hd => by
    rcases List.mem_cons.mp hd with rfl | hd
    · exact g1
    · exact hr d hd) b1 hb1 _ fun b2 hb2 => ?_
  clear g0 gsw hr hT hT0 hTl
  have hvw : Mx.Vd ((ts ++ List.replicate 64 []).take 64) := by
    have h : Mx.Vd (ts ++ List.replicate 64 []) := vd_pad hv 64
    rw [← List.take_append_drop 64 (ts ++ List.replicate 64 [])] at h
    exact h.pre
  have hlw : ((ts ++ List.replicate 64 []).take 64).length = 64 := by simp
  have ew : ((ts.map tD) ++ pad64).take 64 = ((ts ++ List.replicate 64 []).take 64).map tD := by rw [pad64, ← List.map_append, List.map_take]
  generalize hW : (ts ++ List.replicate 64 []).take 64 = W at *
  simp_arith [t64, List.length_map, List.length_append, pad64_len, show ∀ xs : List PyData, cutD xs none (some 64) = xs.take 64 from fun xs => cut_take xs 64, ew, hlw]
  refine ⟨by omega, ?_⟩
  have gW := gd_ties hvw (by omega)
  have gT := gd_ties hv hl
  have nil1 : GA (10 ^ 40) 1 1 [.tuple []] := GA.one (GA.nil (B := 10 ^ 40)).tup
  have none1 : GA (10 ^ 40) 1 1 [.none] := (GA.one (n := 0) (k := 0) ⟨by simp [gdB], by simp [PyData.bulk], by simp [PyData.depth]⟩).mono (Nat.le_refl _) (by omega) (by omega)
  have up : ∀ {m k : Nat} {xs : List PyData}, GA (10 ^ 40) m k xs → m ≤ 9000 → k ≤ 2 → GD (10 ^ 40) 9000 3 (.tuple xs) := fun g h1 h2 => g.tup.mono (Nat.le_refl _) h1 (by omega)
  have gw0 : ∀ d ∈ ([.tuple (W.map tD), .tuple (W.map tD ++ [.tuple []]), .tuple (W.map tD ++ [.none])] : List PyData), GD (10 ^ 40) 9000 3 d := by
    intro d hd
    simp only [List.mem_cons, List.not_mem_nil, or_false] at hd
    rcases hd with rfl | rfl | rfl
    · exact up gW (by omega) (by omega)
    · exact up (gW.cat nil1 (Nat.le_refl _) (Nat.le_refl _) (Nat.le_refl _)) (by omega) (by omega)
    · exact up (gW.cat none1 (Nat.le_refl _) (Nat.le_refl _) (Nat.le_refl _)) (by omega) (by omega)
  have gL : ∀ r ∈ ([.tuple [.int (ts.length : Int)], .tuple [.int (-1)], .tuple [.int ((ts.length : Int) - 1), .int ((ts.length : Int) - 1)], .tuple [.int ((ts.length : Int) - 1), .int ((ts.length : Int) - 1 - 1)], .list [.int 0], .tuple [.bool true], .tuple [.bool false], .tuple [.str "0"], .tuple [.none], .tuple [.int ((ts.length : Int) - 1)]] : List PyData), GD (10 ^ 40) 3 1 r ∧ ((∃ ds, r = .tuple ds) ∨ ∃ ds, r = .list ds) := by
    intro r hr
    simp only [List.mem_cons, List.not_mem_nil, or_false] at hr
    rcases hr with rfl | rfl | rfl | rfl | rfl | rfl | rfl | rfl | rfl | rfl
    · exact ⟨g_one (by omega), .inl ⟨_, rfl⟩⟩
    · exact ⟨⟨by decide +kernel, by decide +kernel, by decide +kernel⟩, .inl ⟨_, rfl⟩⟩
    · exact ⟨g_two (by omega) (by omega), .inl ⟨_, rfl⟩⟩
    · exact ⟨g_two (by omega) (by omega), .inl ⟨_, rfl⟩⟩
    · exact ⟨⟨by decide +kernel, by decide +kernel, by decide +kernel⟩, .inr ⟨_, rfl⟩⟩
    · exact ⟨⟨by decide +kernel, by decide +kernel, by decide +kernel⟩, .inl ⟨_, rfl⟩⟩
    · exact ⟨⟨by decide +kernel, by decide +kernel, by decide +kernel⟩, .inl ⟨_, rfl⟩⟩
    · exact ⟨⟨by decide +kernel, by decide +kernel, by decide +kernel⟩, .inl ⟨_, rfl⟩⟩
    · exact ⟨⟨by decide +kernel, by decide +kernel, by decide +kernel⟩, .inl ⟨_, rfl⟩⟩
    · exact ⟨g_one (by omega), .inl ⟨_, rfl⟩⟩
  have gT63 : GA (10 ^ 40) (ts.length * 65) 1 (List.take 63 (ts.map tD)) := gT.take 63
  have gadd : ∀ r, GD (10 ^ 40) 3 1 r → GD (10 ^ 40) 9000 3 (.tuple (List.take 63 (ts.map tD) ++ [r])) := fun r h => up (gT63.cat (GA.one h) (Nat.le_refl _) (Nat.le_refl _) (Nat.le_refl _)) (by omega) (by omega)
  refine wS_mid (fun z => ∃ s7 rs b', z = ⟨[.bag, .val (.tuple (ts.map tD)), .val (.tuple ((Mx.leastC ts).map nD)), .val (.tuple ((Mx.twoC ts).map PyData.int)), .val (.list (.tuple ((Mx.leastC ts).map nD) :: rest)), .own (T.map nD), s6, s7, s8, .val (.tuple (W.map tD)), .val (.int (ts.length : Int)), .own (.tuple (ts.map tD) :: rs), .val (.int ((ts.length : Int) - 1)), .no], b'⟩ ∧ setOk s7 = true ∧ rs.length ≤ 100 ∧ (∀ d ∈ rs, GD (10 ^ 40) 9000 3 d) ∧ BgOk b') ?_ ?_
  · refine wS_for [.tuple [.int (ts.length : Int)], .tuple [.int (-1)], .tuple [.int ((ts.length : Int) - 1), .int ((ts.length : Int) - 1)], .tuple [.int ((ts.length : Int) - 1), .int ((ts.length : Int) - 1 - 1)], .list [.int 0], .tuple [.bool true], .tuple [.bool false], .tuple [.str "0"], .tuple [.none], .tuple [.int ((ts.length : Int) - 1)]] id (fun done z => ∃ s7 rs b', z = ⟨[.bag, .val (.tuple (ts.map tD)), .val (.tuple ((Mx.leastC ts).map nD)), .val (.tuple ((Mx.twoC ts).map PyData.int)), .val (.list (.tuple ((Mx.leastC ts).map nD) :: rest)), .own (T.map nD), s6, s7, s8, .val (.tuple (W.map tD)), .val (.int (ts.length : Int)), .own (.tuple (ts.map tD) :: rs), .val (.int ((ts.length : Int) - 1)), .no], b'⟩ ∧ setOk s7 = true ∧ rs.length ≤ 3 + done.length ∧ (∀ d ∈ rs, GD (10 ^ 40) 9000 3 d) ∧ BgOk b') ?_
    simp_arith [id]
    refine ⟨⟨_, _, _, rfl, setOk_of_quiet h7, by simp, gw0, hb2⟩, ?_, ?_⟩
    · rintro done r rest' zc hx ⟨s7, rs, b3, rfl, h7, hrl, hrs, hb3⟩
      have hrm := gL r (by rw [hx]; simp)
      have hdl : done.length ≤ 10 := by have := congrArg List.length hx; simp at this; omega
      have skip : ∀ b4, BgOk b4 → ∃ t7 rs' b', (⟨[.bag, .val (.tuple (ts.map tD)), .val (.tuple ((Mx.leastC ts).map nD)), .val (.tuple ((Mx.twoC ts).map PyData.int)), .val (.list (.tuple ((Mx.leastC ts).map nD) :: rest)), .own (T.map nD), s6, .val r, s8, .val (.tuple (W.map tD)), .val (.int (ts.length : Int)), .own (.tuple (ts.map tD) :: rs), .val (.int ((ts.length : Int) - 1)), .no], b4⟩ : Z) = ⟨[.bag, .val (.tuple (ts.map tD)), .val (.tuple ((Mx.leastC ts).map nD)), .val (.tuple ((Mx.twoC ts).map PyData.int)), .val (.list (.tuple ((Mx.leastC ts).map nD) :: rest)), .own (T.map nD), s6, t7, s8, .val (.tuple (W.map tD)), .val (.int (ts.length : Int)), .own (.tuple (ts.map tD) :: rs'), .val (.int ((ts.length : Int) - 1)), .no], b'⟩ ∧ setOk t7 = true ∧ rs'.length ≤ 3 + (done ++ [r]).length ∧ (∀ d ∈ rs', GD (10 ^ 40) 9000 3 d) ∧ BgOk b' := fun b4 hb4 => ⟨_, rs, _, rfl, rfl, by simp; omega, hrs, hb4⟩
      have push : ∀ b4 d, BgOk b4 → GD (10 ^ 40) 9000 3 d → ∃ t7 rs' b', (⟨[.bag, .val (.tuple (ts.map tD)), .val (.tuple ((Mx.leastC ts).map nD)), .val (.tuple ((Mx.twoC ts).map PyData.int)), .val (.list (.tuple ((Mx.leastC ts).map nD) :: rest)), .own (T.map nD), s6, .val r, s8, .val (.tuple (W.map tD)), .val (.int (ts.length : Int)), .own (.tuple (ts.map tD) :: (rs ++ [d])), .val (.int ((ts.length : Int) - 1)), .no], b4⟩ : Z) = ⟨[.bag, .val (.tuple (ts.map tD)), .val (.tuple ((Mx.leastC ts).map nD)), .val (.tuple ((Mx.twoC ts).map PyData.int)), .val (.list (.tuple ((Mx.leastC ts).map nD) :: rest)), .own (T.map nD), s6, t7, s8, .val (.tuple (W.map tD)), .val (.int (ts.length : Int)), .own (.tuple (ts.map tD) :: rs'), .val (.int ((ts.length : Int) - 1)), .no], b'⟩ ∧ setOk t7 = true ∧ rs'.length ≤ 3 + (done ++ [r]).length ∧ (∀ d ∈ rs', GD (10 ^ 40) 9000 3 d) ∧ BgOk b' := fun b4 d hb4 hd => ⟨_, _, _, rfl, rfl, by simp; omega, fun x hx => by
        rcases List.mem_append.mp hx with hx | hx
        · exact hrs x hx
        · rw [List.mem_singleton.mp hx]; exact hd, hb4⟩
      simp_arith [h7, id]
      refine brd (fun q => ?_) fun q => ?_
      · simp_arith [cut63, List.length_map, List.length_take, show ((ts.length : Int) < 64) = True from eq_true q, decide_true]
        exact ⟨by omega, by omega, push b3 _ hb3 (gadd r hrm.1)⟩
      · simp_arith
        refine w_draw (n + 23) 2 b3 (by omega) (by omega) hb3 _ fun c b4 hc hb4 => ?_
        simp_arith [nD_eq]
        refine brd (fun q2 => ?_) fun q2 => ?_
        · simp_arith [cut63, show ((ts.length : Int) < 64) = False from eq_false q, decide_false]
          rcases hrm.2 with ⟨ds, rfl⟩ | ⟨ds, rfl⟩
          · have g := (hrm.1.ofT).1.take 1
            simp_arith [cut63, cut1, List.length_map, List.length_take]
            exact ⟨by omega, by omega, push b4 _ hb4 (gadd _ (g.tup.mono (Nat.le_refl _) (Nat.le_refl _) (by omega)))⟩
          · have g := (hrm.1.ofL).1.take 1
            simp_arith [cut63, cut1, List.length_map, List.length_take]
            exact ⟨by omega, by omega, push b4 _ hb4 (gadd _ (g.lst.mono (Nat.le_refl _) (Nat.le_refl _) (by omega)))⟩
        · simp_arith
          exact skip b4 hb4
    · rintro ze ⟨s7, rs, b3, rfl, h7, hrl, hrs, hb3⟩
      simp_arith
      exact ⟨_, _, _, rfl, h7, by simp at hrl; omega, hrs, hb3⟩
  rintro z ⟨s7, rs, b3, rfl, h7, hrl, hrs, hb3⟩
  simp_arith! [eq_self]
  rw [Mz.ws_cons]
  refine wS_mid (fun z => ∃ rs, z = ⟨[.bag, .val (.tuple (ts.map tD)), .val (.tuple ((Mx.leastC ts).map nD)), .val (.tuple ((Mx.twoC ts).map PyData.int)), .val (.list (.tuple ((Mx.leastC ts).map nD) :: rest)), .own (T.map nD), s6, s7, s8, .val (.tuple (W.map tD)), .val (.int (ts.length : Int)), .own (.tuple (ts.map tD) :: rs), .val (.int ((ts.length : Int) - 1)), .no], b3⟩ ∧ rs.length ≤ 101 ∧ (∀ d ∈ rs, GD (10 ^ 40) 9000 3 d)) ?_ ?_
  · simp_arith
    refine brd (fun q => ?_) fun q => ?_
    · have l1 := cut_len (ts.map tD) (some 2) (some (-1))
      rw [List.length_map] at l1
      simp_arith [cut1, List.length_map, List.length_take, List.length_append]
      refine ⟨by omega, by omega, by omega, by omega, _, rfl, by simp; omega, ?_⟩
      intro d hd
      rcases List.mem_append.mp hd with hd | hd
      · exact hrs d hd
      · rw [List.mem_singleton.mp hd]
        have a1 := gT.take 1
        have a2 : GA (10 ^ 40) 4 1 [.tuple [.int 1]] := GA.one (g_one (by decide))
        have a3 := gT.cut (some 2) (some (-1))
        have a4 : GA (10 ^ 40) 4 1 [.tuple [.int (ts.length : Int)]] := GA.one (g_one (by omega))
        have hle : ts.length * 65 ≤ 64 * 65 := Nat.mul_le_mul_right _ hl
        exact ((((a1.cat a2 (Nat.le_refl _) (Nat.le_refl _) (Nat.le_refl _)).cat a3 (Nat.le_refl _) (Nat.le_refl _) (Nat.le_refl _)).cat a4 (Nat.le_refl _) (Nat.le_refl _) (Nat.le_refl _)).tup).mono (Nat.le_refl _) (by omega) (by omega)
    · simp_arith
      exact ⟨_, rfl, by omega, hrs⟩
  rintro z ⟨rs, rfl, hrl, hrs⟩
  simp_arith
  refine w_judged (n + 4) none (fun ts' e => by cases e) (.tuple (ts.map tD) :: rs) _ _ rfl 5 (by omega) (10 ^ 40) 9000 3 (by decide) (by decide) (by omega) (by omega) (by simp; omega) (fun d hd => by
    rcases List.mem_cons.mp hd with rfl | hd
    · exact up gT (by omega) (by omega)
    · exact hrs d hd) b3 hb3 _ fun b4 hb4 => ?_
  simp_arith
  exact hK _ hb4
end k83_whole_forests_towers

namespace k83_whole_forests_towers
open PySem PySem.Spec L2 Mz
theorem wS_seqS (a m : MS) (z : Z) (Q : Fl → Prop) : wS (seqS a m) z Q = wS a z (KSeq Q m) := by
  show wR ((a z).bind fun
    | .nx z' => m z'
    | f => some f) Q = _
  rw [wR_bind]
  unfold wS
  congr 1
  funext f
  cases f <;> first | rfl | exact wR_some _ _
theorem wS_setS (i : Nat) (f : MU) (z : Z) (Q : Fl → Prop) : wS (setS i f) z Q = wE f z (KSet Q i) := by
  have e : setS i f z = (f z).bind fun p => (resU p.2 p.1).bind fun q => (stoR q.2 i q.1).bind fun z' => some (Fl.nx z') := by
    show (((f z).bind fun p => (some ([], p.2)).bind fun q => some (p.1 :: q.1, q.2)).bind fun p => (resL p.2 p.1).bind fun q => (stoL q.2 [i] q.1).bind fun z' => some (Fl.nx z')) = _
    cases f z with
    | none => rfl
    | some p =>
      show ((resU p.2 p.1).bind fun q => (some ([], q.2)).bind fun w => some (q.1 :: w.1, w.2)).bind (fun q => (stoL q.2 [i] q.1).bind fun z' => some (Fl.nx z')) = (resU p.2 p.1).bind _
      cases resU p.2 p.1 with
      | none => rfl
      | some q =>
        show ((stoR q.2 i q.1).bind fun z1 => some z1).bind _ = (stoR q.2 i q.1).bind _
        cases stoR q.2 i q.1 <;> rfl
  unfold wS; rw [e]; simp only [wR_bind, wR_some]
  unfold wE KSet wRs
  congr 1; funext p; congr 1; funext ⟨w, z'⟩
  cases w with
  | d x => rw [stoR_d, wR_ifc]; rfl
  | nw xs => rw [stoR_nw, wR_ifc]; rfl
theorem wEnd (m : MS) (z : Z) (Q : R × Bg → Prop) : wR ((m z).bind endF) Q = wS m z (KEnd Q) := by
  rw [wR_bind]
  unfold wS
  congr 1
  funext f
  cases f <;> first | exact wR_some _ _ | exact wR_none _
theorem wI_itC (items : List PyData) (z : Z) (Q : List PyData → List Nat → Z → Prop) : wI (itC items) z Q = Q items [] z := wR_some _ _
theorem w_cE (d : PyData) (z : Z) (Q : U → Z → Prop) : wE (cE d) z Q = Q (.d d) z := wR_some _ _
theorem bag_ok (n : Nat) (ns : List Int) : wR (bagEv (run tab n) d__law_bag.N.length bagT bagEl bagOwn d__law_bag.body ns) fun p => ∃ β, p.1 = Bg.d β ∧ BgOk β := by
  unfold bagEv bagM
  rw [wEnd, wS_seqS, wS_setS]
  have hl : (ns.take 63).length ≤ 63 := by rw [List.length_take]; omega
  generalize ns.take 63 = ms at hl
  refine wE_map ms PyData.int (fun i => .int ((if i < 0 then -i else i) % 10 ^ Int.toNat 60)) ?_
  simp_arith [wI_itC, d__law_bag, bagOwn]
  refine ⟨by omega, ?_, ?_⟩
  · intro i hi
    simp_arith [bagT, bagEl, w_cE, show (0 : Int) < 10 ^ Int.toNat 60 from by decide, ifc_dec]
    decide
  generalize hc : ms.map (fun i => PyData.int ((if i < 0 then -i else i) % 10 ^ Int.toNat 60)) = cs
  obtain ⟨xs, hxs, rfl⟩ : ∃ xs : List Int, xs.length ≤ 63 ∧ cs = xs.map PyData.int := ⟨ms.map fun i => (if i < 0 then -i else i) % 10 ^ Int.toNat 60, by rw [List.length_map]; exact hl, by rw [← hc, List.map_map]; rfl⟩
  simp_arith [List.length_map]
  refine wS_for xs PyData.int (fun done z => ∃ s3 mx, z = ⟨[.no, .lck (xs.map PyData.int), .val (.int mx), s3], ⟨[], 0, 0⟩⟩ ∧ setOk s3 = true ∧ 0 ≤ mx ∧ mx < 2147483647) ?_
  simp_arith
  refine ⟨⟨_, _, rfl, rfl, by omega, by omega⟩, ?_, ?_⟩
  · rintro done x rest zc hx ⟨s3, mx, rfl, h3, m1, m2⟩
    have l1 : mx.natAbs.log2 < 31 := log_le (by omega) (by omega)
    simp_arith [h3, ifc_dec]
    have e1 := Int.emod_nonneg (mx * 48271 + x % 2147483629 + 7) (show (2147483647 : Int) ≠ 0 by decide)
    have e2 := Int.emod_lt_of_pos (mx * 48271 + x % 2147483629 + 7) (show (0 : Int) < 2147483647 by decide)
    have l3 : (Int.natAbs 48271).log2 < 17 := by decide
    exact ⟨by omega, by decide, by decide, _, _, rfl, rfl, e1, e2⟩
  · rintro ze ⟨s3, mx, rfl, h3, m1, m2⟩
    simp_arith
    refine ⟨⟨xs.reverse, 0, mx⟩, ?_, m1, m2⟩
    unfold Bg.d
    rw [List.map_reverse]
theorem pow_at (k : Nat) (h : k < 7) : atI [PyData.int 1, .int 2, .int 4, .int 8, .int 16, .int 32, .int 64] (k : Int) = some (.int (2 ^ k)) := by
  rw [atI_nat .none (by simpa using h)]
  have : k = 0 ∨ k = 1 ∨ k = 2 ∨ k = 3 ∨ k = 4 ∨ k = 5 ∨ k = 6 := by omega
  rcases this with rfl | rfl | rfl | rfl | rfl | rfl | rfl <;> rfl
theorem tow_len (k : Nat) (h : k < 7) : (((towF k).length : Nat) : Int) = 2 ^ k := by
  have : k = 0 ∨ k = 1 ∨ k = 2 ∨ k = 3 ∨ k = 4 ∨ k = 5 ∨ k = 6 := by omega
  rcases this with rfl | rfl | rfl | rfl | rfl | rfl | rfl <;> decide +kernel
theorem tow_last (k : Nat) (h : k < 7) : atI ((Mx.leastC (towF k)).map nD) (-1) = some (.int (k : Nat)) := by
  rw [atI_neg1]
  have : k = 0 ∨ k = 1 ∨ k = 2 ∨ k = 3 ∨ k = 4 ∨ k = 5 ∨ k = 6 := by omega
  have e : ∀ c, (Mx.leastC (towF c)).getLast? = some c → ((Mx.leastC (towF c)).map nD).getLast? = some (.int (c : Nat)) := fun c hc => by rw [List.getLast?_map, hc]; rfl
  apply e
  rcases this with rfl | rfl | rfl | rfl | rfl | rfl | rfl <;> decide +kernel
theorem pl_tD {ts : Mx.Ties} (hv : Mx.Vd ts) (hl : ts.length ≤ 64) : plD (.tuple (ts.map tD)) = true ∧ (PyData.tuple (ts.map tD)).depth ≤ 2 := by
  have hd := (canL_tD ts).2
  refine ⟨?_, by simp only [PyData.depth]; omega⟩
  simp only [plD, Bool.and_eq_true, decide_eq_true_eq, List.length_map]
  refine ⟨by omega, ?_⟩
  have : ∀ r ∈ ts, r.length ≤ 64 := fun r hr => by
    obtain ⟨i, hi, rfl⟩ := List.mem_iff_getElem.mp hr
    have := (vd_row hv i).len
    rw [List.getD_eq_getElem?_getD, List.getElem?_eq_getElem hi] at this
    simp only [Option.getD_some] at this
    omega
  clear hv hl hd
  induction ts with
  | nil => rfl
  | cons a r ih =>
    simp only [List.map_cons, plA, Bool.and_eq_true]
    exact ⟨(plD_nats (by have := this a (by simp); omega)).1, ih fun x hx => this x (List.mem_cons_of_mem _ hx)⟩
theorem law_ok (n : Nat) (β : Bg) (hb : BgOk β) : wR (lawEv (run tab (n + 30)) d_law.N.length d_law.body β) fun p => p.1 = .d (.bool true) := by
  unfold lawEv
  rw [wEnd]
  simp_arith [d_law]
  refine wS_for (List.range 7) nD (fun done z => ∃ s2 s9 s10, z = ⟨[.no, .bag, s2, .no, .no, .no, .no, .no, .no, s9, s10], β⟩ ∧ setOk s2 = true ∧ setOk s9 = true ∧ setOk s10 = true) ?_
  simp_arith [okI_in (i := 7) (by omega) (by omega), show rgD 0 7 = (List.range 7).map nD from rg_nat 7]
  refine ⟨⟨_, _, _, rfl, rfl, rfl, rfl⟩, ?_, ?_⟩
  · rintro done k rest zc hx ⟨s2, s9, s10, rfl, h2, h9, h10⟩
    have hk : k < 7 := by
      have : k ∈ List.range 7 := by rw [hx]; simp
      simpa using this
    obtain ⟨t1, t2⟩ := towF_vd k (by omega)
    have e1 : ∀ n b, run tab (n + 7) "_law_tower" [.d (.int (k : Nat))] b = some (.nw ((towF k).map tD), b) := fun n b => r_law_tower n k (by omega) b
    have e2 : ∀ n b, run tab (n + 7) "colour_tower" [.d (.int (k : Nat))] b = some (.d (.tuple ((towF k).map tD)), b) := fun n b => r_colour_tower n k (by omega) b
    have e3 : ∀ n b, run tab (n + 2) "fewest_knots" [.d (.int (k : Nat))] b = some (.d (.int (2 ^ k)), b) := fun n b => r_fewest_knots n k (by omega) b
    obtain ⟨p1, p2⟩ := pl_tD t1 t2
    have s1 : ∀ n b, run tab (n + 4) "_law_same" [.d (.tuple [.tuple ((towF k).map tD), .int (2 ^ k), .int (2 ^ k), .int (2 ^ k)]), .d (.tuple [.tuple ((towF k).map tD), .int (2 ^ k), .int (2 ^ k), .int (2 ^ k)])] b = some (.d (.bool true), b) := fun n b => r_same b n 3 _ (by
      have := p1
      simp [plD, plA] at this ⊢
      exact this) (by
      simp only [PyData.depth, PyData.depthAll] at p2 ⊢
      omega)
    simp_arith [h2, h9, h10, nD_eq, e1, pow_at k hk, e2, e3, List.length_map, tow_len k hk, s1]
    exact ⟨_, _, _, rfl, rfl, rfl, rfl⟩
  rintro ze ⟨s2, s9, s10, rfl, h2, h9, h10⟩
  simp_arith
  refine w_draw (n + 29) 7 β (by omega) (by omega) hb _ fun k b1 hk hb1 => ?_
  have hk7 : k < 7 := by omega
  obtain ⟨t1, t2⟩ := towF_vd k (by omega)
  have e1 : ∀ n b, run tab (n + 7) "_law_tower" [.d (.int (k : Nat))] b = some (.nw ((towF k).map tD), b) := fun n b => r_law_tower n k (by omega) b
  have e2 : ∀ n b, run tab (n + 7) "colour_tower" [.d (.int (k : Nat))] b = some (.d (.tuple ((towF k).map tD)), b) := fun n b => r_colour_tower n k (by omega) b
  have e3 : ∀ n b, run tab (n + 1) "least_colours" [.d (.tuple ((towF k).map tD))] b = some (.d (.tuple ((Mx.leastC (towF k)).map nD)), b) := fun n b => r_least_colours n _ t1 t2 b
  obtain ⟨p1, p2⟩ := pl_tD t1 t2
  have s1 : ∀ n b, run tab (n + 3) "_law_same" [.d (.tuple ((towF k).map tD)), .d (.tuple ((towF k).map tD))] b = some (.d (.bool true), b) := fun n b => r_same b n 2 _ p1 p2
  have s2' : ∀ n b, run tab (n + 3) "_law_same" [.d (.int (k : Nat)), .d (.int (k : Nat))] b = some (.d (.bool true), b) := fun n b => r_same b n 2 _ (by simp [plD]) (by simp [PyData.depth])
  simp_arith [nD_eq, h2, e1, e2, s1, e3, tow_last k hk7, s2']
  refine w_ties (n + 20) b1 hb1 _ fun one b2 v1 l1 hb2 => ?_
  simp_arith
  refine w_ties (n + 20) b2 hb2 _ fun other b3 v2 l2 hb3 => ?_
  simp_arith
  refine w_facts (n + 29) one v1 l1 b3 _ fun t1 ht1 => ?_
  simp_arith
  refine w_facts (n + 29) other v2 l2 b3 _ fun t2 ht2 => ?_
  simp_arith
  refine w_read (n + 20) one v1 l1 t1 ht1 b3 hb3 _ fun b4 hb4 => ?_
  simp_arith
  refine w_read (n + 20) other v2 l2 t2 ht2 b4 hb4 _ fun b5 hb5 => ?_
  simp_arith
  refine w_draw (n + 29) 31 b5 (by omega) (by omega) hb5 _ fun r b6 hr hb6 => ?_
  simp_arith [nD_eq, ifc_dec]
  have lg : (Int.natAbs 2).log2 < 2 := by decide
  have lr : (r : Int).natAbs.log2 < 10 := log_le (by omega) (by omega)
  refine ⟨by omega, ?_⟩
  rw [show (3 : Int) + 2 * (r : Int) = ((3 + 2 * r : Nat) : Int) by omega]
  refine w_odd_ring (n + 20) r (by omega) b6 hb6 _ fun b7 hb7 => ?_
  simp_arith
  refine w_draw (n + 29) 63 b7 (by omega) (by omega) hb7 _ fun q b8 hq hb8 => ?_
  simp_arith [nD_eq]
  refine w_pick (n + 28) _ _ b8 (.inl rfl) (by simp) (by simp) hb8 _ fun a ha b9 hb9 => ?_
  obtain ⟨m, hm2, hm64, rfl⟩ : ∃ m : Nat, 2 ≤ m ∧ m ≤ 64 ∧ a = .int (m : Nat) := by
    simp only [List.mem_cons, List.not_mem_nil, or_false] at ha
    rcases ha with rfl | rfl
    · exact ⟨64, by omega, by omega, rfl⟩
    · exact ⟨2 + q, by omega, by omega, by first | rfl | (congr 1; omega)⟩
  simp_arith
  refine w_is_full (n + 20) m hm2 hm64 b9 hb9 _ fun b10 hb10 => ?_
  simp_arith [factD, at_2, at_3]
  refine w_spoils (n + 5) one v1 l1 b10 hb10 _ fun b11 hb11 => ?_
  obtain ⟨fo1, _⟩ := ht1.fo
  have e4 : ∀ n b, run tab (n + 1) "is_forest" [.d (.tuple (one.map tD))] b = some (.d (.bool (decide ((t1 : Int) = (one.length : Int)))), b) := fun n b => r_is_forest n one v1 l1 b _ (by rw [decide_eq_true_eq, ← fo1]; omega)
  have s3 : ∀ p : Bool, ∀ n b, run tab (n + 2) "_law_same" [.d (.bool p), .d (.bool p)] b = some (.d (.bool true), b) := fun p n b => r_same b n 1 _ (pl_bool p 1).1 (pl_bool p 1).2
  simp_arith [e4, at0, nD_eq, List.length_map, s3]
theorem plain : ∀ ns : List Int, ns.length ≤ 63 → ∃ (β b' b'' : Bg), bagEv (run (tabS.map (·.1)) 60) d__law_bag.N.length bagT bagEl bagOwn d__law_bag.body ns = some (Bg.d β, b') ∧ lawEv (run (tabS.map (·.1)) (60 + 1)) d_law.N.length d_law.body β = some (.d (.bool true), b'') := by
  intro ns _
  obtain ⟨⟨w, b'⟩, e1, β, e2, hb⟩ := bag_ok 60 ns
  obtain ⟨⟨v, b''⟩, e3, e4⟩ := law_ok 31 β hb
  simp only at e2 e4
  subst e2 e4
  exact ⟨β, b', b'', e1, e3⟩
end k83_whole_forests_towers

open PySem PySem.W PyProof.Rows
set_option maxRecDepth 100000 in
set_option maxHeartbeats 0 in
theorem PySem.Challenge.cw_answernow_k83_whole_forests_towers_holds : PySem.Challenge.rw_answernow_k83_whole_forests_towers.Holds := by
  w_on; o_law; k_head; (case hw => w_witness2)
  k_fill
  refine Mz.walk_txt (l := PySem.Challenge.rw_answernow_k83_whole_forests_towers) k83_whole_forests_towers.ltxt 60 rfl (by decide) rfl ⟨rfl, by decide, by decide⟩ (by decide +kernel) (fun w h Y => PySem.W.kIn_of Y) rfl (fun w => ?E) k83_whole_forests_towers.plain
  case E =>
    refine ⟨?ents, ?nones, ?cons, ?eb, ?el⟩
    case ents =>
      unfold k83_whole_forests_towers.tabS
      refine Mz.EntAll.cons ?_ ?_
      · show Mz.Ent _ "is_integer" (k83_whole_forests_towers.stm 2); refine' Mz.Ent.of ?p0 ?q0 ?r0 ?s0; (case p0 => k_is); (case q0 => k_is); (case r0 => k_is); (case s0 => k_is)
      refine Mz.EntAll.cons ?_ ?_
      · show Mz.Ent _ "is_whole" (k83_whole_forests_towers.stm 3); refine' Mz.Ent.of ?p1 ?q1 ?r1 ?s1; (case p1 => k_is); (case q1 => k_is); (case r1 => k_is); (case s1 => k_is)
      refine Mz.EntAll.cons ?_ ?_
      · show Mz.Ent _ "is_tuple" (k83_whole_forests_towers.stm 4); refine' Mz.Ent.of ?p2 ?q2 ?r2 ?s2; (case p2 => k_is); (case q2 => k_is); (case r2 => k_is); (case s2 => k_is)
      refine Mz.EntAll.cons ?_ ?_
      · show Mz.Ent _ "are_places" (k83_whole_forests_towers.stm 5); refine' Mz.Ent.of ?p3 ?q3 ?r3 ?s3; (case p3 => k_is); (case q3 => k_is); (case r3 => k_is); (case s3 => k_is)
      refine Mz.EntAll.cons ?_ ?_
      · show Mz.Ent _ "power_of" (k83_whole_forests_towers.stm 6); refine' Mz.Ent.of ?p4 ?q4 ?r4 ?s4; (case p4 => k_is); (case q4 => k_is); (case r4 => k_is); (case s4 => k_is)
      refine Mz.EntAll.cons ?_ ?_
      · show Mz.Ent _ "ties_error" (k83_whole_forests_towers.stm 8); refine' Mz.Ent.of ?p5 ?q5 ?r5 ?s5; (case p5 => k_is); (case q5 => k_is); (case r5 => k_is); (case s5 => k_is)
      refine Mz.EntAll.cons ?_ ?_
      · show Mz.Ent _ "is_forest" (k83_whole_forests_towers.stm 9); refine' Mz.Ent.of ?p6 ?q6 ?r6 ?s6; (case p6 => k_is); (case q6 => k_is); (case r6 => k_is); (case s6 => k_is)
      refine Mz.EntAll.cons ?_ ?_
      · show Mz.Ent _ "least_colours" (k83_whole_forests_towers.stm 10); refine' Mz.Ent.of ?p7 ?q7 ?r7 ?s7; (case p7 => k_is); (case q7 => k_is); (case r7 => k_is); (case s7 => k_is)
      refine Mz.EntAll.cons ?_ ?_
      · show Mz.Ent _ "colours_error" (k83_whole_forests_towers.stm 11); refine' Mz.Ent.of ?p8 ?q8 ?r8 ?s8; (case p8 => k_is); (case q8 => k_is); (case r8 => k_is); (case s8 => k_is)
      refine Mz.EntAll.cons ?_ ?_
      · show Mz.Ent _ "two_colours" (k83_whole_forests_towers.stm 12); refine' Mz.Ent.of ?p9 ?q9 ?r9 ?s9; (case p9 => k_is); (case q9 => k_is); (case r9 => k_is); (case s9 => k_is)
      refine Mz.EntAll.cons ?_ ?_
      · show Mz.Ent _ "colour_tower" (k83_whole_forests_towers.stm 13); refine' Mz.Ent.of ?p10 ?q10 ?r10 ?s10; (case p10 => k_is); (case q10 => k_is); (case r10 => k_is); (case s10 => k_is)
      refine Mz.EntAll.cons ?_ ?_
      · show Mz.Ent _ "fewest_knots" (k83_whole_forests_towers.stm 14); refine' Mz.Ent.of ?p11 ?q11 ?r11 ?s11; (case p11 => k_is); (case q11 => k_is); (case r11 => k_is); (case s11 => k_is)
      refine Mz.EntAll.cons ?_ ?_
      · show Mz.Ent _ "_law_draw" (k83_whole_forests_towers.stm 17); refine' Mz.Ent.of ?p12 ?q12 ?r12 ?s12; (case p12 => k_is); (case q12 => k_is); (case r12 => k_is); (case s12 => k_is)
      refine Mz.EntAll.cons ?_ ?_
      · show Mz.Ent _ "_law_pick" (k83_whole_forests_towers.stm 18); refine' Mz.Ent.of ?p13 ?q13 ?r13 ?s13; (case p13 => k_is); (case q13 => k_is); (case r13 => k_is); (case s13 => k_is)
      refine Mz.EntAll.cons ?_ ?_
      · show Mz.Ent _ "_law_int" (k83_whole_forests_towers.stm 19); refine' Mz.Ent.of ?p14 ?q14 ?r14 ?s14; (case p14 => k_is); (case q14 => k_is); (case r14 => k_is); (case s14 => k_is)
      refine Mz.EntAll.cons ?_ ?_
      · show Mz.Ent _ "_law_same" (k83_whole_forests_towers.stm 20); refine' Mz.Ent.of ?p15 ?q15 ?r15 ?s15; (case p15 => k_is); (case q15 => k_is); (case r15 => k_is); (case s15 => k_is)
      refine Mz.EntAll.cons ?_ ?_
      · show Mz.Ent _ "_law_odd" (k83_whole_forests_towers.stm 21); refine' Mz.Ent.of ?p16 ?q16 ?r16 ?s16; (case p16 => k_is); (case q16 => k_is); (case r16 => k_is); (case s16 => k_is)
      refine Mz.EntAll.cons ?_ ?_
      · show Mz.Ent _ "_law_other" (k83_whole_forests_towers.stm 22); refine' Mz.Ent.of ?p17 ?q17 ?r17 ?s17; (case p17 => k_is); (case q17 => k_is); (case r17 => k_is); (case s17 => k_is)
      refine Mz.EntAll.cons ?_ ?_
      · show Mz.Ent _ "_law_bools" (k83_whole_forests_towers.stm 23); refine' Mz.Ent.of ?p18 ?q18 ?r18 ?s18; (case p18 => k_is); (case q18 => k_is); (case r18 => k_is); (case s18 => k_is)
      refine Mz.EntAll.cons ?_ ?_
      · show Mz.Ent _ "_law_due_ties" (k83_whole_forests_towers.stm 24); refine' Mz.Ent.of ?p19 ?q19 ?r19 ?s19; (case p19 => k_is); (case q19 => k_is); (case r19 => k_is); (case s19 => k_is)
      refine Mz.EntAll.cons ?_ ?_
      · show Mz.Ent _ "_law_due_colours" (k83_whole_forests_towers.stm 25); refine' Mz.Ent.of ?p20 ?q20 ?r20 ?s20; (case p20 => k_is); (case q20 => k_is); (case r20 => k_is); (case s20 => k_is)
      refine Mz.EntAll.cons ?_ ?_
      · show Mz.Ent _ "_law_judged" (k83_whole_forests_towers.stm 26); refine' Mz.Ent.of ?p21 ?q21 ?r21 ?s21; (case p21 => k_is); (case q21 => k_is); (case r21 => k_is); (case s21 => k_is)
      refine Mz.EntAll.cons ?_ ?_
      · show Mz.Ent _ "_law_forest" (k83_whole_forests_towers.stm 27); refine' Mz.Ent.of ?p22 ?q22 ?r22 ?s22; (case p22 => k_is); (case q22 => k_is); (case r22 => k_is); (case s22 => k_is)
      refine Mz.EntAll.cons ?_ ?_
      · show Mz.Ent _ "_law_tower" (k83_whole_forests_towers.stm 28); refine' Mz.Ent.of ?p23 ?q23 ?r23 ?s23; (case p23 => k_is); (case q23 => k_is); (case r23 => k_is); (case s23 => k_is)
      refine Mz.EntAll.cons ?_ ?_
      · show Mz.Ent _ "_law_coming" (k83_whole_forests_towers.stm 29); refine' Mz.Ent.of ?p24 ?q24 ?r24 ?s24; (case p24 => k_is); (case q24 => k_is); (case r24 => k_is); (case s24 => k_is)
      refine Mz.EntAll.cons ?_ ?_
      · show Mz.Ent _ "_law_ring" (k83_whole_forests_towers.stm 30); refine' Mz.Ent.of ?p25 ?q25 ?r25 ?s25; (case p25 => k_is); (case q25 => k_is); (case r25 => k_is); (case s25 => k_is)
      refine Mz.EntAll.cons ?_ ?_
      · show Mz.Ent _ "_law_thick" (k83_whole_forests_towers.stm 31); refine' Mz.Ent.of ?p26 ?q26 ?r26 ?s26; (case p26 => k_is); (case q26 => k_is); (case r26 => k_is); (case s26 => k_is)
      refine Mz.EntAll.cons ?_ ?_
      · show Mz.Ent _ "_law_ties" (k83_whole_forests_towers.stm 32); refine' Mz.Ent.of ?p27 ?q27 ?r27 ?s27; (case p27 => k_is); (case q27 => k_is); (case r27 => k_is); (case s27 => k_is)
      refine Mz.EntAll.cons ?_ ?_
      · show Mz.Ent _ "_law_facts" (k83_whole_forests_towers.stm 33); refine' Mz.Ent.of ?p28 ?q28 ?r28 ?s28; (case p28 => k_is); (case q28 => k_is); (case r28 => k_is); (case s28 => k_is)
      refine Mz.EntAll.cons ?_ ?_
      · show Mz.Ent _ "_law_odd_ring" (k83_whole_forests_towers.stm 34); refine' Mz.Ent.of ?p29 ?q29 ?r29 ?s29; (case p29 => k_is); (case q29 => k_is); (case r29 => k_is); (case s29 => k_is)
      refine Mz.EntAll.cons ?_ ?_
      · show Mz.Ent _ "_law_is_full" (k83_whole_forests_towers.stm 35); refine' Mz.Ent.of ?p30 ?q30 ?r30 ?s30; (case p30 => k_is); (case q30 => k_is); (case r30 => k_is); (case s30 => k_is)
      refine Mz.EntAll.cons ?_ ?_
      · show Mz.Ent _ "_law_read" (k83_whole_forests_towers.stm 36); refine' Mz.Ent.of ?p31 ?q31 ?r31 ?s31; (case p31 => k_is); (case q31 => k_is); (case r31 => k_is); (case s31 => k_is)
      refine Mz.EntAll.cons ?_ ?_
      · show Mz.Ent _ "_law_spoils" (k83_whole_forests_towers.stm 37); refine' Mz.Ent.of ?p32 ?q32 ?r32 ?s32; (case p32 => k_is); (case q32 => k_is); (case r32 => k_is); (case s32 => k_is)
      exact trivial
    case nones =>
      unfold Mz.bN
      refine Mz.NoneAll.cons ?_ ?_
      · k_is
      refine Mz.NoneAll.cons ?_ ?_
      · k_is
      refine Mz.NoneAll.cons ?_ ?_
      · k_is
      refine Mz.NoneAll.cons ?_ ?_
      · k_is
      refine Mz.NoneAll.cons ?_ ?_
      · k_is
      refine Mz.NoneAll.cons ?_ ?_
      · k_is
      refine Mz.NoneAll.cons ?_ ?_
      · k_is
      refine Mz.NoneAll.cons ?_ ?_
      · k_is
      refine Mz.NoneAll.cons ?_ ?_
      · k_is
      refine Mz.NoneAll.cons ?_ ?_
      · k_is
      refine Mz.NoneAll.cons ?_ ?_
      · k_is
      refine Mz.NoneAll.cons ?_ ?_
      · k_is
      refine Mz.NoneAll.cons ?_ ?_
      · k_is
      refine Mz.NoneAll.cons ?_ ?_
      · k_is
      refine Mz.NoneAll.cons ?_ ?_
      · k_is
      refine Mz.NoneAll.cons ?_ ?_
      · k_is
      refine Mz.NoneAll.cons ?_ ?_
      · k_is
      refine Mz.NoneAll.cons ?_ ?_
      · k_is
      refine Mz.NoneAll.cons ?_ ?_
      · k_is
      refine Mz.NoneAll.cons ?_ ?_
      · k_is
      refine Mz.NoneAll.cons ?_ ?_
      · k_is
      exact trivial
    case cons =>
      unfold k83_whole_forests_towers.cons
      refine' Mz.ConAll.cons ?cc0 ?cd0
      case cc0 => show PySem.W.nsIn _ mainGlobals "MAX_KNOTS" = some (some (.int 64 _)); k_is
      exact trivial
    case eb => show Mz.Ent _ "_law_bag" (k83_whole_forests_towers.stm 16); refine' Mz.Ent.of ?p33 ?q33 ?r33 ?s33; (case p33 => k_is); (case q33 => k_is); (case r33 => k_is); (case s33 => k_is)
    case el => show Mz.Ent _ "law" (k83_whole_forests_towers.stm 38); refine' Mz.Ent.of ?p34 ?q34 ?r34 ?s34; (case p34 => k_is); (case q34 => k_is); (case r34 => k_is); (case s34 => k_is)

