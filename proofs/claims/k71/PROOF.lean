import PyProof.Rows.All
import Wide.All
import OpenK.AllK
import Wide.FinOn
import HandS.ForMost
import HandS.ForExc
import HandS.Deep
import HandS.Wide
import HandS.WideBits
import HandS.TupMul
import HandS.TupAny
import HandS.IsInst
import HandS.Style
import HandS.SortInts
import HandS.Strs
import HandS.TupLe
import KE.GoesEnum
import HandS.Iter
import HandS.Flow
import HandS.More
import HandS.Exc
import HandS.ExcOwn
import HandS.CallSlots
import HandS.TryOnly
import HandS.ExcInit
import HandS.Small
import HandS.WordsExc
import KE.KStateDown
import HandS.Defaults
import HandS.Head0
import HandS.Head1
import HandS.Head2
import HandS.HeadEnd
import HandS.HeadHook1
import HandS.HeadHook2
import KE.KExcInit
import PySem.Challenge.RW_samesamples_k71_whole_change_places_and
set_option Elab.async false
set_option linter.all false
set_option autoImplicit false
set_option maxRecDepth 100000
set_option maxHeartbeats 4000000
/-! UL1: values with tuples by value, their relation to the layer below, the abstract heap. -/
namespace UL
open PySem PySem.Spec L2

/-- a value: tuples (and the locked script list, rol) by content -/
inductive U where
  | non | bl (b : Bool) | int (i : Int) | str (x : Str) | tup (us : List U) | rol (us : List U) | ref (a : Addr) | ty (n : String)

/-- a list that never changes: locked, or of the module -/
def Frz (K : PySem.W.Frag) (H : Hp) (a : Addr) (xs : List V) : Prop :=
  (∃ o, H a = some (.frz o (.lst xs))) ∨
    ∃ (o : Obj) (its : Array Value) (n : Nat), K.lookup a = some o ∧ o.cls = .type "list" ∧ o.dict = none ∧ o.data = .seq its n ∧ its.size ≤ sizeLine ∧ Vals xs its.toList
theorem Frz.sq {K : PySem.W.Frag} {H : Hp} {a : Addr} {xs : List V} (h : Frz K H a xs) : SqL K H a xs := by
  rcases h with h | h
  · exact .inl (.inr h)
  · exact .inr h

mutual
inductive RU (K : PySem.W.Frag) (H : Hp) : U → V → Prop
  | non : RU K H .non .non
  | bl (b : Bool) : RU K H (.bl b) (.bl b)
  | int (i : Int) : RU K H (.int i) (.int i)
  | str (x : Str) : RU K H (.str x) (.str x)
  | tup {a : Addr} {xs : List V} {us : List U} : SqT K H a xs → RUs K H us xs → RU K H (.tup us) (.ref a)
  | rol {a : Addr} {xs : List V} {us : List U} : Frz K H a xs → RUs K H us xs → RU K H (.rol us) (.ref a)
  | ref (a : Addr) : RU K H (.ref a) (.ref a)
  | ty (n : String) : RU K H (.ty n) (.ty n)
inductive RUs (K : PySem.W.Frag) (H : Hp) : List U → List V → Prop
  | nil : RUs K H [] []
  | cons {u : U} {us : List U} {x : V} {xs : List V} : RU K H u x → RUs K H us xs → RUs K H (u :: us) (x :: xs)
end

/-- what never changes stays -/
structure Ext (H H' : Hp) : Prop where
  t : ∀ a xs, H a = some (.tup xs) → H' a = some (.tup xs)
  f : ∀ a o u, H a = some (.frz o u) → H' a = some (.frz o u)
theorem Ext.refl {H : Hp} : Ext H H := ⟨fun _ _ h => h, fun _ _ _ h => h⟩
theorem Ext.trans {H1 H2 H3 : Hp} (a : Ext H1 H2) (b : Ext H2 H3) : Ext H1 H3 := ⟨fun c xs h => b.t c xs (a.t c xs h), fun c o u h => b.f c o u (a.f c o u h)⟩
theorem Ext.new {H : Hp} {p : Addr} {o : HO} (h : H p = none) : Ext H (upd H p o) :=
  ⟨fun a xs e => by rw [upd_ne (ne_of_none e h)]; exact e, fun a o' u e => by rw [upd_ne (ne_of_none e h)]; exact e⟩
theorem Ext.wr {H : Hp} {p : Addr} {o q : HO} (h : H p = some q) (h1 : ∀ xs, q ≠ .tup xs) (h2 : ∀ o u, q ≠ .frz o u) : Ext H (upd H p o) :=
  ⟨fun a xs e => by
    have n : a ≠ p := fun z => by subst z; rw [h] at e; exact h1 xs (Option.some.inj e)
    rw [upd_ne n]; exact e,
   fun a o' u e => by
    have n : a ≠ p := fun z => by subst z; rw [h] at e; exact h2 o' u (Option.some.inj e)
    rw [upd_ne n]; exact e⟩
section
variable {K : PySem.W.Frag} {H H' : Hp}
theorem SqT.ext (e : Ext H H') {a : Addr} {xs : List V} (h : SqT K H a xs) : SqT K H' a xs := by
  rcases h with (h | ⟨o, h⟩) | h
  · exact .inl (.inl (e.t _ _ h))
  · exact .inl (.inr ⟨o, e.f _ _ _ h⟩)
  · exact .inr h
theorem Frz.ext (e : Ext H H') {a : Addr} {xs : List V} (h : Frz K H a xs) : Frz K H' a xs := by
  rcases h with ⟨o, h⟩ | h
  · exact .inl ⟨o, e.f _ _ _ h⟩
  · exact .inr h
mutual
theorem RU.ext (e : Ext H H') : ∀ {u : U} {v : V}, RU K H u v → RU K H' u v
  | _, _, .non => .non
  | _, _, .bl b => .bl b
  | _, _, .int i => .int i
  | _, _, .str x => .str x
  | _, _, .tup h r => .tup (SqT.ext e h) (RUs.ext e r)
  | _, _, .rol h r => .rol (Frz.ext e h) (RUs.ext e r)
  | _, _, .ref a => .ref a
  | _, _, .ty n => .ty n
theorem RUs.ext (e : Ext H H') : ∀ {us : List U} {vs : List V}, RUs K H us vs → RUs K H' us vs
  | _, _, .nil => .nil
  | _, _, .cons r t => .cons (RU.ext e r) (RUs.ext e t)
end
theorem RUs.length : ∀ {us : List U} {vs : List V}, RUs K H us vs → us.length = vs.length
  | _, _, .nil => rfl
  | _, _, .cons _ t => congrArg (· + 1) (RUs.length t)
theorem RUs.get : ∀ {us : List U} {vs : List V} {i : Nat} {u : U}, RUs K H us vs → us[i]? = some u → ∃ v, vs[i]? = some v ∧ RU K H u v
  | _, _, _, _, .nil, e => by simp at e
  | _, _, 0, _, .cons r _, e => by simp at e; subst e; exact ⟨_, rfl, r⟩
  | _, _, i + 1, u, .cons _ t, e => by
    obtain ⟨v, h1, h2⟩ := RUs.get (i := i) (u := u) t (by simpa using e)
    exact ⟨v, by simpa using h1, h2⟩
theorem RUs.get' : ∀ {us : List U} {vs : List V} {i : Nat} {v : V}, RUs K H us vs → vs[i]? = some v → ∃ u, us[i]? = some u ∧ RU K H u v
  | _, _, _, _, .nil, e => by simp at e
  | _, _, 0, _, .cons r _, e => by simp at e; subst e; exact ⟨_, rfl, r⟩
  | _, _, i + 1, u, .cons _ t, e => by
    obtain ⟨v, h1, h2⟩ := RUs.get' (i := i) (v := u) t (by simpa using e)
    exact ⟨v, by simpa using h1, h2⟩
theorem RUs.append : ∀ {us ws : List U} {vs xs : List V}, RUs K H us vs → RUs K H ws xs → RUs K H (us ++ ws) (vs ++ xs)
  | _, _, _, _, .nil, s => s
  | _, _, _, _, .cons r t, s => .cons r (RUs.append t s)
theorem RUs.take : ∀ {us : List U} {vs : List V} (n : Nat), RUs K H us vs → RUs K H (us.take n) (vs.take n)
  | _, _, 0, _ => by simp; exact .nil
  | _, _, _ + 1, .nil => by simp; exact .nil
  | _, _, n + 1, .cons r t => by simp; exact .cons r (RUs.take n t)
theorem RUs.drop : ∀ {us : List U} {vs : List V} (n : Nat), RUs K H us vs → RUs K H (us.drop n) (vs.drop n)
  | _, _, 0, r => r
  | _, _, _ + 1, .nil => by simp; exact .nil
  | _, _, n + 1, .cons _ t => by simp; exact RUs.drop n t
theorem RUs.set {u : U} {v : V} (r : RU K H u v) : ∀ {us : List U} {vs : List V} (i : Nat), RUs K H us vs → RUs K H (us.set i u) (vs.set i v)
  | _, _, _, .nil => .nil
  | _, _, 0, .cons _ t => .cons r t
  | _, _, i + 1, .cons q t => .cons q (RUs.set r i t)
theorem RUs.rep {u : U} {v : V} (r : RU K H u v) : ∀ n : Nat, RUs K H (List.replicate n u) (List.replicate n v)
  | 0 => .nil
  | n + 1 => .cons r (RUs.rep r n)
theorem RUs.reps {us : List U} {vs : List V} (r : RUs K H us vs) : ∀ n : Nat, RUs K H (List.replicate n us).flatten (List.replicate n vs).flatten
  | 0 => .nil
  | n + 1 => by simp only [List.replicate_succ, List.flatten_cons]; exact RUs.append r (RUs.reps r n)
theorem RUs.dropLast {us : List U} {vs : List V} (r : RUs K H us vs) : RUs K H us.dropLast vs.dropLast := by
  rw [List.dropLast_eq_take, List.dropLast_eq_take, r.length]
  exact RUs.take _ r
theorem RUs.eraseIdx : ∀ {us : List U} {vs : List V} (i : Nat), RUs K H us vs → RUs K H (us.eraseIdx i) (vs.eraseIdx i)
  | _, _, _, .nil => .nil
  | _, _, 0, .cons _ t => t
  | _, _, i + 1, .cons q t => .cons q (RUs.eraseIdx i t)
theorem RUs.reverse {us : List U} {vs : List V} (r : RUs K H us vs) : RUs K H us.reverse vs.reverse := by
  induction us generalizing vs with
  | nil => cases r; exact .nil
  | cons u us ih =>
    cases r with
    | cons r t => simp only [List.reverse_cons]; exact RUs.append (ih t) (.cons r .nil)
theorem RUs.ints : ∀ {ns : List Int} {vs : List V}, RUs K H (ns.map U.int) vs → vs = ns.map V.int
  | [], _, h => by cases h; rfl
  | n :: ns, _, h => by
    cases h with
    | cons r t => cases r; rw [RUs.ints t]; rfl
theorem RUs.of_ints : ∀ (ns : List Int), RUs K H (ns.map U.int) (ns.map V.int)
  | [] => .nil
  | n :: ns => .cons (.int n) (RUs.of_ints ns)
theorem RUs.bls : ∀ {ns : List Bool} {vs : List V}, RUs K H (ns.map U.bl) vs → vs = ns.map V.bl
  | [], _, h => by cases h; rfl
  | n :: ns, _, h => by
    cases h with
    | cons r t => cases r; rw [RUs.bls t]; rfl
theorem RUs.strs : ∀ {ns : List Str} {vs : List V}, RUs K H (ns.map U.str) vs → vs = ns.map V.str
  | [], _, h => by cases h; rfl
  | n :: ns, _, h => by
    cases h with
    | cons r t => cases r; rw [RUs.strs t]; rfl
theorem RUs.of_strs : ∀ (ns : List Str), RUs K H (ns.map U.str) (ns.map V.str)
  | [] => .nil
  | n :: ns => .cons (.str n) (RUs.of_strs ns)
end

/-! ### the abstract heap of objects that change -/
inductive UO where
  | lst (us : List U)
  | dK (kvs : List (Key × U))
  | ins (C : Addr) (fs : List (Str × U))
abbrev UH := Addr → Option UO
def up (G : UH) (a : Addr) (o : UO) : UH := fun b => if b = a then some o else G b
theorem up_same {G : UH} {a : Addr} {o : UO} : up G a o a = some o := by unfold up; rw [if_pos rfl]
theorem up_ne {G : UH} {a b : Addr} {o : UO} (h : b ≠ a) : up G a o b = G b := by unfold up; rw [if_neg h]
theorem up_up {G : UH} {a : Addr} {o u : UO} : up (up G a o) a u = up G a u := by
  funext b; unfold up; split <;> rfl
theorem up_comm {G : UH} {a b : Addr} {o u : UO} (h : a ≠ b) : up (up G a o) b u = up (up G b u) a o := by
  funext c; unfold up
  by_cases h1 : c = b
  · by_cases h2 : c = a
    · exact absurd (h2.symm.trans h1) h
    · rw [if_pos h1, if_neg h2, if_pos h1]
  · rw [if_neg h1]
    by_cases h2 : c = a
    · rw [if_pos h2, if_pos h2]
    · rw [if_neg h2, if_neg h2, if_neg h1]
theorem un_of {G : UH} {a b : Addr} {o : UO} (h : G a = some o) (h' : G b = none) : a ≠ b := by
  intro e; subst e; rw [h] at h'; cases h'
/-- G holds no more than G' -/
def Le (G G' : UH) : Prop := ∀ a o, G a = some o → G' a = some o
theorem Le.refl (G : UH) : Le G G := fun _ _ h => h
theorem Le.trans {G1 G2 G3 : UH} (a : Le G1 G2) (b : Le G2 G3) : Le G1 G3 := fun c o h => b c o (a c o h)
theorem Le.new {G : UH} {p : Addr} {o : UO} (h : G p = none) : Le G (up G p o) := fun a q e => by rw [up_ne (un_of e h)]; exact e

def RKV (K : PySem.W.Frag) (H : Hp) {κ : Type} : List (κ × U) → List (κ × V) → Prop := Paired fun p q => p.1 = q.1 ∧ RU K H p.2 q.2
def RO (K : PySem.W.Frag) (H : Hp) (a : Addr) : UO → Prop
  | .lst us => ∃ xs, H a = some (.lst xs) ∧ RUs K H us xs
  | .dK kvs => ∃ xs, H a = some (.dK xs) ∧ RKV K H kvs xs
  | .ins C fs => ∃ dx xs, H a = some (.ins C dx xs) ∧ RKV K H fs xs
def HR (K : PySem.W.Frag) (G : UH) (H : Hp) : Prop := ∀ a o, G a = some o → RO K H a o
section
variable {K : PySem.W.Frag} {H H' : Hp} {G G' : UH}
theorem RKV.ext (e : Ext H H') {κ : Type} {ks : List (κ × U)} {xs : List (κ × V)} (r : RKV K H ks xs) : RKV K H' ks xs := by
  unfold RKV at *
  induction r with
  | nil => exact .nil
  | cons h _ ih => exact .cons ⟨h.1, RU.ext e h.2⟩ ih
theorem HR.le (r : HR K G' H) (l : Le G G') : HR K G H := fun a o e => r a o (l a o e)
theorem HR.fresh (r : HR K G H) {p : Addr} (h : H p = none) : G p = none := by
  cases q : G p with
  | none => rfl
  | some o =>
    have z := r p o q
    cases o with
    | lst us => obtain ⟨xs, e, _⟩ := z; rw [h] at e; cases e
    | dK us => obtain ⟨xs, e, _⟩ := z; rw [h] at e; cases e
    | ins C fs => obtain ⟨_, xs, e, _⟩ := z; rw [h] at e; cases e
theorem RO.keep (e : Ext H H') {a : Addr} (h : H' a = H a) {o : UO} (r : RO K H a o) : RO K H' a o := by
  cases o with
  | lst us => obtain ⟨xs, e1, r⟩ := r; exact ⟨xs, h.trans e1, RUs.ext e r⟩
  | dK us => obtain ⟨xs, e1, r⟩ := r; exact ⟨xs, h.trans e1, RKV.ext e r⟩
  | ins C fs => obtain ⟨dx, xs, e1, r⟩ := r; exact ⟨dx, xs, h.trans e1, RKV.ext e r⟩
/-- an object at p is laid or changed -/
theorem HR.put (r : HR K G H) {p : Addr} {o : HO} {u : UO} (e : Ext H (upd H p o)) (n : RO K (upd H p o) p u) : HR K (up G p u) (upd H p o) := fun a q h => by
  by_cases ha : a = p
  · subst ha; rw [up_same] at h; cases h; exact n
  · rw [up_ne ha] at h; exact (r a q h).keep e (upd_ne ha)
/-- an object that G does not tell of is laid or changed -/
theorem HR.side (r : HR K G H) {p : Addr} {o : HO} (e : Ext H (upd H p o)) (n : G p = none) : HR K G (upd H p o) := fun a q h =>
  (r a q h).keep e (upd_ne (un_of h n))
theorem HR.lst (r : HR K G H) {a : Addr} {us : List U} (h : G a = some (.lst us)) : ∃ xs, H a = some (.lst xs) ∧ RUs K H us xs := r a _ h
theorem Ext.lst {a : Addr} {xs ys : List V} (h : H a = some (.lst xs)) : Ext H (upd H a (.lst ys)) := .wr h (fun _ z => by cases z) (fun _ _ z => by cases z)
theorem HR.setLst (r : HR K G H) {a : Addr} {us ws : List U} {ys : List V} (h : G a = some (.lst us)) (q : RUs K H ws ys) : Ext H (upd H a (.lst ys)) ∧ HR K (up G a (.lst ws)) (upd H a (.lst ys)) := by
  obtain ⟨xs, e, _⟩ := r.lst h
  have x : Ext H (upd H a (.lst ys)) := .lst e
  exact ⟨x, r.put x ⟨ys, upd_same, RUs.ext x q⟩⟩
theorem HR.newLst (r : HR K G H) {p : Addr} {ws : List U} {ys : List V} (h : H p = none) (q : RUs K H ws ys) : Ext H (upd H p (.lst ys)) ∧ HR K (up G p (.lst ws)) (upd H p (.lst ys)) := by
  have x : Ext H (upd H p (.lst ys)) := .new h
  exact ⟨x, r.put x ⟨ys, upd_same, RUs.ext x q⟩⟩
theorem HR.newTup (r : HR K G H) {p : Addr} {ws : List U} {ys : List V} (h : H p = none) (q : RUs K H ws ys) : Ext H (upd H p (.tup ys)) ∧ HR K G (upd H p (.tup ys)) ∧ RU K (upd H p (.tup ys)) (.tup ws) (.ref p) := by
  have x : Ext H (upd H p (.tup ys)) := .new h
  exact ⟨x, r.side x (r.fresh h), .tup (SqT.of upd_same) (RUs.ext x q)⟩
end

/-! ### slots -/
abbrev USt := List (Option U)
structure SR (K : PySem.W.Frag) (H : Hp) (s : USt) (σ : L2.St) : Prop where
  len : s.length = σ.length
  at_ : ∀ (i : Nat) (u : U), s[i]? = some (some u) → ∃ v, σ[i]? = some (some v) ∧ RU K H u v
section
variable {K : PySem.W.Frag} {H H' : Hp} {s : USt} {σ : L2.St}
theorem SR.ext (r : SR K H s σ) (e : Ext H H') : SR K H' s σ := ⟨r.len, fun i u h => let ⟨v, h1, h2⟩ := r.at_ i u h; ⟨v, h1, RU.ext e h2⟩⟩
theorem SR.set (r : SR K H s σ) {i : Nat} {u : U} {v : V} (q : RU K H u v) : SR K H (s.set i (some u)) (σ.set i (some v)) := by
  refine ⟨by simp [r.len], fun j w h => ?_⟩
  by_cases hj : i = j
  · subst hj
    by_cases hi : i < s.length
    · rw [List.getElem?_set_self hi] at h
      cases h
      exact ⟨v, by rw [List.getElem?_set_self (by rw [← r.len]; exact hi)], q⟩
    · rw [List.getElem?_eq_none (by simpa using hi)] at h; cases h
  · rw [List.getElem?_set_ne hj] at h
    obtain ⟨x, h1, h2⟩ := r.at_ j w h
    exact ⟨x, by rw [List.getElem?_set_ne hj]; exact h1, h2⟩
theorem SR.unset (r : SR K H s σ) (i : Nat) (o : Option V) : SR K H (s.set i none) (σ.set i o) := by
  refine ⟨by simp [r.len], fun j w h => ?_⟩
  by_cases hj : i = j
  · subst hj
    by_cases hi : i < s.length
    · rw [List.getElem?_set_self hi] at h; cases h
    · rw [List.getElem?_eq_none (by simpa using hi)] at h; cases h
  · rw [List.getElem?_set_ne hj] at h
    obtain ⟨x, h1, h2⟩ := r.at_ j w h
    exact ⟨x, by rw [List.getElem?_set_ne hj]; exact h1, h2⟩
end
end UL
set_option Elab.async false
set_option linter.all false
set_option autoImplicit false
set_option maxRecDepth 100000
set_option maxHeartbeats 4000000
/-! UL0: a tuple times one, times nothing; a slice of a tuple with a step. -/
namespace UL
open PySem PySem.Spec PyProof.Rows L2
/-- nothing of it: a new empty tuple -/
theorem tuple_mul0 (l : Addr) (items : Array Value) (n : Nat) (dd : Option Addr) (sl : Array (Option Value)) (x : Int) (u : Tok) (c0 : (decide (x < -(2 ^ 63)) || decide (x ≥ 2 ^ 63)) = false) (c1 : (items.isEmpty || x == 1) = false) (c2 : (decide (x ≤ 0) || items.isEmpty) = true) :
    Meets (Builtin.«tuple.__mul__» ⟨[.ref l, .int x u], []⟩) (fun _ R s => s.heap.get? l = some { cls := .type "tuple", dict := dd, data := .seq items n, slots := sl } ∧
      R (.ok (.ret (Value.ref s.heap.objs.size))) { s with heap := s.heap.push { cls := Value.type "tuple", data := Data.seq #[] }, toks := s.toks }) :=
  .of_wp fun prog w A R s h => by
    obtain ⟨hp, g, d, tk, os⟩ := s
    obtain ⟨hl, h⟩ := h
    have f1 := AutoSeq1.idx_int
    wp_walk using wpAny_loadPart' hl
    repeat (first
      | (refine wpAny_ite_false (decide_eq_false (by rw [c0]; exact Bool.false_ne_true)) ?_; wp_walk using wpAny_loadPart' hl)
      | (refine wpAny_ite_false (decide_eq_false (by rw [c1]; exact Bool.false_ne_true)) ?_; wp_walk using wpAny_loadPart' hl)
      | (refine wpAny_ite_true (decide_eq_true c2) ?_; wp_walk using wpAny_loadPart' hl))
    exact ⟨_, rfl, h⟩
/-- once: itself -/
theorem tuple_mul1 (l : Addr) (items : Array Value) (n : Nat) (dd : Option Addr) (sl : Array (Option Value)) (u : Tok) :
    Meets (Builtin.«tuple.__mul__» ⟨[.ref l, .int 1 u], []⟩) (fun _ R s => s.heap.get? l = some { cls := .type "tuple", dict := dd, data := .seq items n, slots := sl } ∧ R (.ok (.ret (Value.ref l))) s) :=
  .of_wp fun prog w A R s h => by
    obtain ⟨hp, g, d, tk, os⟩ := s
    obtain ⟨hl, h⟩ := h
    have f1 := AutoSeq1.idx_int
    have c0 : (decide ((1 : Int) < -(2 ^ 63)) || decide ((1 : Int) ≥ 2 ^ 63)) = false := by decide
    have c1 : (items.isEmpty || (1 : Int) == 1) = true := by simp
    wp_walk using wpAny_loadPart' hl
    repeat (first
      | (refine wpAny_ite_false (decide_eq_false (by rw [c0]; exact Bool.false_ne_true)) ?_; wp_walk using wpAny_loadPart' hl)
      | (refine wpAny_ite_true (decide_eq_true c1) ?_; wp_walk using wpAny_loadPart' hl))
    exact ⟨_, rfl, h⟩
section
variable {X : Cx}
def rRep01 (K : PySem.W.Frag) : R2 := fun x y H Q => ∃ l k xs, x = .ref l ∧ y = .int k ∧ SqT K H l xs ∧ xs ≠ [] ∧ ((k = 0 ∧ ∀ p, H p = none → Q (.ref p) (upd H p (.tup []))) ∨ (k = 1 ∧ Q (.ref l) H))
theorem op_rep01 : OpR X (binaryOp .Mult) (rRep01 X.K) := by
  intro pins s σ H x y v u Q I rx ry h
  obtain ⟨l, k, xs, rfl, rfl, hT, hne, q⟩ := h
  cases rx
  obtain ⟨t, rfl⟩ := ry
  obtain ⟨its, r, ⟨⟨cls, dd, data, sl⟩, ho, hc, n, hd⟩, hs⟩ := I.tuple hT
  simp only at hc hd
  subst hc hd
  have hle : its.length = xs.length := r.length.symm
  have hn : its ≠ [] := fun e => hne (by
    rw [e] at hle
    exact List.eq_nil_of_length_eq_zero hle.symm)
  have hi : its.toArray.isEmpty = false := by
    cases its with
    | nil => exact absurd rfl hn
    | cons a b => rfl
  rcases q with ⟨rfl, q⟩ | ⟨rfl, q⟩
  · refine wpAny_binaryOp_repeat_ref (T := "tuple") (U := "int") (by decide) ⟨_, ho, rfl⟩ (fun s' => typeIs_int s' 0 t) noFill_tuple_mul F.fills_int_mul F.slot_int_rmul repeat_tuple F.slot_int_index.lookup
      (call_meets F.slot_int_rmul (typeIs_int s 0 t) F.entry_int_rmul (F.args_int_rmul_2 _ _) (int_rmul_tuple 0 t l its.toArray n dd sl)
        ⟨ho, rfl, ⟨_, ho, rfl⟩, call_meets F.slot_tuple_mul ⟨_, ho, rfl⟩ F.entry_tuple_mul (F.args_tuple_mul_2 _ _) (tuple_mul0 l its.toArray n dd sl 0 t (by decide) (by rw [hi]; rfl) rfl) ⟨ho, ?_⟩⟩)
    exact ⟨.ref s.heap.objs.size, _, I.laid (t' := s.toks) (o := .tup []) (fun b ob q => Heap.get?_push_of_some _ q) (Nat.le_refl _) ⟨Nat.zero_le _, _, .nil, IsTup.new _ _⟩, rfl, q _ (I.hok.fresh (Nat.le_refl _))⟩
  · refine wpAny_binaryOp_repeat_ref (T := "tuple") (U := "int") (by decide) ⟨_, ho, rfl⟩ (fun s' => typeIs_int s' 1 t) noFill_tuple_mul F.fills_int_mul F.slot_int_rmul repeat_tuple F.slot_int_index.lookup
      (call_meets F.slot_int_rmul (typeIs_int s 1 t) F.entry_int_rmul (F.args_int_rmul_2 _ _) (int_rmul_tuple 1 t l its.toArray n dd sl)
        ⟨ho, rfl, ⟨_, ho, rfl⟩, call_meets F.slot_tuple_mul ⟨_, ho, rfl⟩ F.entry_tuple_mul (F.args_tuple_mul_2 _ _) (tuple_mul1 l its.toArray n dd sl t) ⟨ho, ?_⟩⟩)
    exact ⟨.ref l, H, I, rfl, q⟩
/-! ### [::c] -/
def stpLo (c : Int) (n : Nat) : Int := if c < 0 then (n : Int) - 1 else 0
def stpN (c : Int) (n : Nat) : Nat := (if c > 0 then (if (0 : Int) < n then ((n : Int) - 0 - 1) / c + 1 else 0) else (if (n : Int) - 1 > -1 then ((n : Int) - 1 - -1 - 1) / (-c) + 1 else 0)).toNat
def stp {α : Type} (xs : List α) (c : Int) : List α := (List.range (stpN c xs.length)).filterMap fun (m : Nat) => xs[(stpLo c xs.length + (m : Int) * c).toNat]?
section
variable {prog : Program} {w : World} {A : Around} {E : Value → Shared → Prop} {s : Shared}
theorem sliceApplied_step {sl : Addr} {vc : Value} {c : Int} {n : Nat} {Q : Int × Int × Nat → Shared → Prop} (hs : s.heap.IsSliceOf sl .none .none vc) (pc : IsPart vc (some c)) (hc : c ≠ 0)
    (h : Q (stpLo c n, c, stpN c n) s) : wpAny (model prog w) A (Builtin.Slice.sliceApplied (.ref sl) (pure (n : Int))) Q E s := by
  obtain ⟨os, hos, hcs, hds⟩ := id hs
  unfold Builtin.Slice.sliceApplied Builtin.Slice.sliceFields
  refine wpAny_bind (wpAny_bind (wpAny_field hos hds (x := .none) rfl (wpAny_bind (wpAny_field hos hds (x := .none) rfl (wpAny_bind (wpAny_field hos hds (x := vc) rfl (wpAny_pure ?_)))))))
  refine wpAny_bind (HT.slicePart_ pc ?_)
  show wpAny _ _ (if (c == 0) = true then _ else _) _ _ s
  rw [if_neg (by simpa using hc)]
  refine wpAny_bind (slicePart_none (wpAny_bind (slicePart_none (wpAny_bind (wpAny_pure ?_)))))
  show wpAny _ _ (match Builtin.Slice.sliceAdjust none none c (n : Int) with | (lo, hi) => pure (lo, c, Builtin.Slice.slicePlaces lo hi c)) _ _ s
  have e : Builtin.Slice.sliceAdjust none none c (n : Int) = (stpLo c n, if c < 0 then -1 else (n : Int)) := by
    unfold Builtin.Slice.sliceAdjust stpLo
    by_cases h0 : c < 0
    · simp only [h0, if_true]
    · simp only [h0, if_false]
  rw [e]
  refine wpAny_pure ?_
  have e2 : Builtin.Slice.slicePlaces (stpLo c n) (if c < 0 then -1 else (n : Int)) c = stpN c n := by
    unfold Builtin.Slice.slicePlaces stpLo stpN
    by_cases h0 : c < 0
    · have h1 : ¬ c > 0 := by omega
      simp only [h0, h1, if_true, if_false]
    · have h1 : c > 0 := by omega
      simp only [h0, h1, if_true, if_false]
  show Q (stpLo c n, c, Builtin.Slice.slicePlaces (stpLo c n) (if c < 0 then -1 else (n : Int)) c) s
  rw [e2]
  exact h
theorem pick_all {α : Type} : ∀ (xs : List α), (List.range xs.length).filterMap (fun m => xs[m]?) = xs
  | [] => rfl
  | x :: t => by
    rw [List.length_cons, List.range_succ_eq_map, List.filterMap_cons, List.filterMap_map]
    have e : ((fun m => (x :: t)[m]?) ∘ Nat.succ) = fun m => t[m]? := by
      funext m
      simp
    rw [e, pick_all t]
    simp
theorem stp_one {α : Type} (xs : List α) : stp xs 1 = xs := by
  have e : stpN 1 xs.length = xs.length := by
    unfold stpN
    simp only [show (1 : Int) > 0 by decide, if_true]
    split
    · have : ((xs.length : Int) - 0 - 1) / 1 = (xs.length : Int) - 1 := by rw [Int.ediv_one]; omega
      omega
    · omega
  unfold stp
  rw [e]
  unfold stpLo
  have e2 : (fun (m : Nat) => xs[((if (1 : Int) < 0 then (xs.length : Int) - 1 else 0) + (m : Int) * 1).toNat]?) = fun m => xs[m]? := by
    funext m
    have : ((if (1 : Int) < 0 then (xs.length : Int) - 1 else 0) + (m : Int) * 1).toNat = m := by
      rw [if_neg (by decide)]; omega
    rw [this]
  rw [e2]
  exact pick_all xs
theorem stp_len {α : Type} (xs : List α) (c : Int) (hc : c ≠ 0) : (stp xs c).length ≤ xs.length := by
  refine Nat.le_trans (List.length_filterMap_le _ _) ?_
  rw [List.length_range]
  unfold stpN
  split
  · split
    · have := Int.ediv_le_self (b := c) (by omega : 0 ≤ (xs.length : Int) - 0 - 1)
      omega
    · omega
  · split
    · have := Int.ediv_le_self (b := -c) (by omega : 0 ≤ (xs.length : Int) - 1 - -1 - 1)
      omega
    · omega
section
variable {prog : Program} {w : World} {A : Around} {E : Value → Shared → Prop} {s : Shared}
theorem getItem_tuple_step {t sl : Addr} {items : Array Value} {vc : Value} {c : Int} {Q : Value → Shared → Prop} (ht : IsTup s.heap t items) (hs : s.heap.IsSliceOf sl .none .none vc) (pc : IsPart vc (some c)) (hc : c ≠ 0)
    (h1 : c = 1 → Q (.ref t) s)
    (h : c ≠ 1 → Q (.ref s.heap.objs.size) { s with heap := s.heap.push { cls := .type "tuple", data := .seq (stp items.toList c).toArray } })
    (hsz : items.size ≤ sizeLine) : wpAny (model prog w) A (getItem (.ref t) (.ref sl)) Q E s := by
  have htake : sizeOk (.seq (stp items.toList c).toArray) := by
    show (stp items.toList c).toArray.size ≤ sizeLine
    rw [List.size_toArray]
    have := stp_len items.toList c hc
    rw [Array.length_toList] at this
    exact Nat.le_trans this hsz
  obtain ⟨os, hos, hcs, hds⟩ := id hs
  have hTs : s.TypeIs (.ref sl) "slice" := ⟨os, hos, hcs⟩
  unfold getItem
  try with_reducible refine wpAny_holding ?_
  first | refine wpAny_bind (wpAny_pure ?_) | skip
  refine wpAny_bind (wpAny_sequenceKey ht.typeIs (by decide) ?_)
  refine wpAny_bind (wpAny_callSpecial?_slot (name := Str.ofString "__getitem__") ht.typeIs PyProof.Rows.slot_tuple_getitem
    (wpAny_call_entry PyProof.Rows.slot_tuple_getitem ht.typeIs entry_tuple_getitem ?_ (args_tuple_getitem _ _)))
  show wpAny _ _ (Builtin.Tuple.tupleItemsOf (.ref t) >>= _) _ _ s
  refine wpAny_bind (tupleItemsOf_ ht ?_)
  refine wpAny_bind (wpAny_typeOf hTs ?_)
  rw [if_pos (by decide)]
  refine wpAny_bind (sliceApplied_step hs pc hc ?_)
  show wpAny _ _ (if (stpLo c items.size == 0 && c == 1 && stpN c items.size == items.size) = true then _ else _) _ _ s
  by_cases e1 : c = 1
  · subst e1
    have hyes : (stpLo 1 items.size == 0 && (1 : Int) == 1 && stpN 1 items.size == items.size) = true := by
      have a1 : stpLo 1 items.size = 0 := rfl
      have a2 : stpN 1 items.size = items.size := by
        unfold stpN
        simp only [show (1 : Int) > 0 by decide, if_true]
        split
        · have : ((items.size : Int) - 0 - 1) / 1 = (items.size : Int) - 1 := by rw [Int.ediv_one]; omega
          omega
        · omega
      rw [a1, a2]; simp
    rw [if_pos hyes]
    refine wpAny_bind ?_
    show wpAny _ _ (typeOf (.ref t) >>= fun T => pure (T == .type "tuple")) _ _ s
    refine wpAny_bind (wpAny_typeOf ht.typeIs (wpAny_pure ?_))
    first
      | rw [if_pos (by decide)]
      | simp only [beq_self_eq_true, if_true]
    first
      | exact wpAny_bind (wpAny_rule (wpAny_pure ⟨_, rfl, wpAny_pure (h1 rfl)⟩))
      | exact wpAny_bind (wpAny_rule (wpAny_bind (wpAny_pure (wpAny_pure ⟨_, rfl, wpAny_pure (h1 rfl)⟩))))
  · have hno : ¬ ((stpLo c items.size == 0 && c == 1 && stpN c items.size == items.size) = true) := by
      intro q
      rw [Bool.and_eq_true, Bool.and_eq_true] at q
      exact e1 (eq_of_beq q.1.2)
    rw [if_neg hno]
    have e : ((List.range (stpN c items.size)).filterMap fun (k : Nat) => items[(stpLo c items.size + (k : Int) * c).toNat]?).toArray = (stp items.toList c).toArray := by
      unfold stp
      rw [Array.length_toList]
      congr 2
      funext k
      rw [Array.getElem?_toList]
    rw [e]
    first
      | exact wpAny_bind (m := Builtin.Tuple.tupleExact _) (wpAny_newObj_type (wpAny_pure ⟨_, rfl, wpAny_pure (h e1)⟩) htake)
      | exact wpAny_bind (m := Builtin.Tuple.tupleExact _) (wpAny_newObj_type (wpAny_bind (wpAny_pure (wpAny_pure ⟨_, rfl, wpAny_pure (h e1)⟩))) htake)
      | exact wpAny_bind (wpAny_bind (m := Builtin.Tuple.tupleExact _) (wpAny_newObj_type (wpAny_pure (wpAny_pure ⟨_, rfl, wpAny_pure (h e1)⟩)) htake))
      | exact wpAny_bind (wpAny_bind (m := Builtin.Tuple.tupleExact _) (wpAny_newObj_type (wpAny_pure ⟨_, rfl, wpAny_pure (h e1)⟩) htake))
end
theorem stp_vals {xs : List V} {us : List Value} (r : Vals xs us) (c : Int) : Vals (stp xs c) (stp us c) := by
  unfold stp
  rw [r.length]
  generalize stpN c us.length = n
  have : ∀ (l : List Nat), Vals (l.filterMap fun (m : Nat) => xs[(stpLo c us.length + (m : Int) * c).toNat]?) (l.filterMap fun (m : Nat) => us[(stpLo c us.length + (m : Int) * c).toNat]?) := by
    intro l
    induction l with
    | nil => exact .nil
    | cons m l ih =>
      simp only [List.filterMap_cons]
      generalize (stpLo c us.length + (m : Int) * c).toNat = j
      cases e : xs[j]? with
      | none =>
        have : us[j]? = none := by
          rw [List.getElem?_eq_none_iff] at e ⊢
          rw [← r.length]; exact e
        rw [this]; exact ih
      | some x =>
        obtain ⟨u, hu, ru⟩ := r.get e
        rw [hu]
        exact .cons ru ih
  exact this _
/-- t[::c] by values -/
def rStp (K : PySem.W.Frag) : V → V → Hp → VK → Prop := fun x y H Q => ∃ a c xs, x = .ref a ∧ y = .int c ∧ c ≠ 0 ∧ SqT K H a xs ∧ (c = 1 → Q (.ref a) H) ∧ (c ≠ 1 → ∀ p, H p = none → Q (.ref p) (upd H p (.tup (stp xs c))))
def tStp (K : PySem.W.Frag) (te tc : TE) : TE := fun σ H Q => te σ H fun x H1 => tc σ H1 fun y H2 => rStp K x y H2 Q
theorem pe_step {e c : Expr} {te tc : TE} {pos p2 : Pos} (he : PE X e te) (hc : PE X c tc) : PE X (.Subscript e (.Slice none none (some c) p2) pos) (tStp X.K te tc) := by
  refine ⟨fun pins s σ H Q I h => ?_⟩
  refine Subscript_ (thn (he.run pins s σ H _ I h) fun v s1 ⟨x, H1, I1, r1, q1⟩ => ?_)
  refine wpAny_Slice ?_
  rw [evalPart_none]
  refine wpAny_pure ?_
  refine wpAny_pure ?_
  rw [evalPart_some]
  refine thn (hc.run pins s1 σ H1 _ I1 q1) fun vc s3 ⟨y, H3, I3, r3, q3⟩ => ?_
  obtain ⟨a, cc, xs, rfl, rfl, hc0, hx, q1, q2⟩ := q3
  cases r1
  obtain ⟨tkk, rfl⟩ := r3
  have I4 : Inv X pins σ H3 { s3 with heap := s3.heap.push { cls := .type "slice", data := .fields #[.none, .none, .int cc tkk] } } := I3.kept (t' := s3.toks) fun b ob q => Heap.get?_push_of_some _ q
  obtain ⟨its, r, ht, hz⟩ := I4.tuple hx
  show wpAny (model X.prog X.w) X.A (subscriptTail e (.Slice none none (some c) p2) (.ref a) (.ref s3.heap.objs.size)) (EP X pins σ Q) X.xe { s3 with heap := s3.heap.push { cls := .type "slice", data := .fields #[.none, .none, .int cc tkk] } }
  refine tail_any (ops := [.ref a, .ref s3.heap.objs.size]) ht.typeIs PyProof.Rows.slot_tuple_getitem.lookup ?_ (by with_unfolding_all rfl)
  refine getItem_tuple_step ht (Heap.IsSliceOf.new ..) (.int cc tkk) hc0 (fun e1 => ⟨.ref a, H3, I4, rfl, q1 e1⟩) (fun e1 => ?_) (by rw [List.size_toArray, ← r.length]; exact hz)
  refine ⟨.ref _, _, I4.laid (t' := s3.toks) (o := .tup (stp xs cc)) (fun b ob q => Heap.get?_push_of_some _ q) (Nat.le_refl _) ?_, rfl, q2 e1 _ (I4.hok.fresh (Nat.le_refl _))⟩
  refine ⟨?_, _, stp_vals r cc, IsTup.new _ _⟩
  have := stp_len xs cc hc0
  have hl := r.length
  omega
end
end
end UL
set_option Elab.async false
set_option linter.all false
set_option autoImplicit false
set_option maxRecDepth 100000
set_option maxHeartbeats 4000000
/-! UL2: readings over the abstract heap; operators by values. -/
namespace UL
open PySem PySem.Spec L2

abbrev UK := U → UH → Prop
abbrev UT := USt → UH → UK → Prop
abbrev UTT := USt → UH → (Bool → UH → Prop) → Prop
abbrev UTA := USt → UH → (List U → UH → Prop) → Prop
def cE (K : PySem.W.Frag) (t : UT) : TE := fun σ H Q => ∃ s G Q0, SR K H s σ ∧ HR K G H ∧ t s G Q0 ∧ ∀ u G' v H', Q0 u G' → RU K H' u v → HR K G' H' → Ext H H' → Q v H'
def cT (K : PySem.W.Frag) (t : UTT) : TT := fun σ H Q => ∃ s G Q0, SR K H s σ ∧ HR K G H ∧ t s G Q0 ∧ ∀ b G' H', Q0 b G' → HR K G' H' → Ext H H' → Q b H'
def cA (K : PySem.W.Frag) (t : UTA) : TA := fun σ H Q => ∃ s G Q0, SR K H s σ ∧ HR K G H ∧ t s G Q0 ∧ ∀ us G' vs H', Q0 us G' → RUs K H' us vs → HR K G' H' → Ext H H' → Q vs H'
abbrev UOp := U → U → UH → UK → Prop
abbrev UFn := List U → UH → UK → Prop
def c2 (K : PySem.W.Frag) (r : UOp) : R2 := fun x y H Q => ∃ u w G Q0, RU K H u x ∧ RU K H w y ∧ HR K G H ∧ r u w G Q0 ∧ ∀ z G' v H', Q0 z G' → RU K H' z v → HR K G' H' → Ext H H' → Q v H'
def cF (K : PySem.W.Frag) (r : UFn) : List V → Hp → VK → Prop := fun xs H Q => ∃ us G Q0, RUs K H us xs ∧ HR K G H ∧ r us G Q0 ∧ ∀ z G' v H', Q0 z G' → RU K H' z v → HR K G' H' → Ext H H' → Q v H'
def cM (K : PySem.W.Frag) (r : U → UFn) : V → List V → Hp → VK → Prop := fun x xs H Q => ∃ u us G Q0, RU K H u x ∧ RUs K H us xs ∧ HR K G H ∧ r u us G Q0 ∧ ∀ z G' v H', Q0 z G' → RU K H' z v → HR K G' H' → Ext H H' → Q v H'

section
variable {X : Cx}
theorem PE.weak {e : Expr} {t t' : TE} (h : PE X e t) (w : ∀ σ H Q, t' σ H Q → t σ H Q) : PE X e t' := ⟨fun pins s σ H Q I q => h.run pins s σ H Q I (w σ H Q q)⟩
theorem PT.weak {e : Expr} {t t' : TT} (h : PT X e t) (w : ∀ σ H Q, t' σ H Q → t σ H Q) : PT X e t' := ⟨fun pins s σ H Q I q => h.run pins s σ H Q I (w σ H Q q)⟩
theorem PA.weak {e : List Expr} {t t' : TA} (h : PA X e t) (w : ∀ σ H Q, t' σ H Q → t σ H Q) : PA X e t' := ⟨fun pos pins s σ H Q I q => h.run pos pins s σ H Q I (w σ H Q q)⟩
theorem PS.weak {e : Stmt} {t t' : TS} (h : PS X e t) (w : ∀ D σ H, t' D σ H → t D σ H) : PS X e t' := ⟨fun pins s σ H D I q => h.run pins s σ H D I (w D σ H q)⟩
theorem PSs.weak {e : List Stmt} {t t' : TS} (h : PSs X e t) (w : ∀ D σ H, t' D σ H → t D σ H) : PSs X e t' := ⟨fun pins s σ H D I q => h.run pins s σ H D I (w D σ H q)⟩

/-! ### expressions put together -/
def uBin (r : UOp) (ta tb : UT) : UT := fun s G Q => ta s G fun x G1 => tb s G1 fun y G2 => r x y G2 Q
theorem cOp {K : PySem.W.Frag} {r : UOp} {ta tb : UT} {σ : L2.St} {H : Hp} {Q : VK} (h : cE K (uBin r ta tb) σ H Q) : tOp (c2 K r) (cE K ta) (cE K tb) σ H Q := by
  obtain ⟨s, G, Q0, hs, hg, h, k⟩ := h
  refine ⟨s, G, _, hs, hg, h, fun x G1 v H1 h1 r1 g1 e1 => ⟨s, G1, _, hs.ext e1, g1, h1, fun y G2 v2 H2 h2 r2 g2 e2 => ?_⟩⟩
  exact ⟨x, y, G2, Q0, RU.ext e2 r1, r2, g2, h2, fun z G3 v3 H3 h3 r3 g3 e3 => k z G3 v3 H3 h3 r3 g3 ((e1.trans e2).trans e3)⟩
def uUn (r : U → UH → UK → Prop) (ta : UT) : UT := fun s G Q => ta s G fun x G1 => r x G1 Q
def c1 (K : PySem.W.Frag) (r : U → UH → UK → Prop) : V → Hp → VK → Prop := fun x H Q => ∃ u G Q0, RU K H u x ∧ HR K G H ∧ r u G Q0 ∧ ∀ z G' v H', Q0 z G' → RU K H' z v → HR K G' H' → Ext H H' → Q v H'
theorem cUn {K : PySem.W.Frag} {r : U → UH → UK → Prop} {ta : UT} {σ : L2.St} {H : Hp} {Q : VK} (h : cE K (uUn r ta) σ H Q) : tUn (c1 K r) (cE K ta) σ H Q := by
  obtain ⟨s, G, Q0, hs, hg, h, k⟩ := h
  refine ⟨s, G, _, hs, hg, h, fun x G1 v H1 h1 r1 g1 e1 => ?_⟩
  exact ⟨x, G1, Q0, r1, g1, h1, fun z G3 v3 H3 h3 r3 g3 e3 => k z G3 v3 H3 h3 r3 g3 (e1.trans e3)⟩
/-- a value without more ado -/
def uC (u : U) : UT := fun _ G Q => Q u G
theorem cC {K : PySem.W.Frag} {u : U} {v : V} (r : ∀ H, RU K H u v) {σ : L2.St} {H : Hp} {Q : VK} (h : cE K (uC u) σ H Q) : tC v σ H Q := by
  obtain ⟨s, G, Q0, hs, hg, h, k⟩ := h
  exact k u G v H h (r H) hg .refl
def getS : USt → Nat → Option U
  | [], _ => none
  | o :: _, 0 => o
  | _ :: s, i + 1 => getS s i
def setS : USt → Nat → Option U → USt
  | [], _, _ => []
  | _ :: s, 0, v => v :: s
  | o :: s, i + 1, v => o :: setS s i v
theorem getS_some : ∀ {s : USt} {i : Nat} {u : U}, getS s i = some u → s[i]? = some (some u)
  | [], _, _, h => by cases h
  | o :: _, 0, u, h => by simp [getS] at h; simp [h]
  | _ :: s, i + 1, u, h => by simp [getS] at h; simpa using getS_some h
theorem setS_eq : ∀ (s : USt) (i : Nat) (v : Option U), setS s i v = s.set i v
  | [], _, _ => rfl
  | _ :: _, 0, _ => rfl
  | o :: s, i + 1, v => by simp [setS, setS_eq s i v]
def uVar (i : Nat) : UT := fun s G Q => match getS s i with
  | some u => Q u G
  | none => False
theorem cVar {K : PySem.W.Frag} {i : Nat} {σ : L2.St} {H : Hp} {Q : VK} (h : cE K (uVar i) σ H Q) : tVar i σ H Q := by
  obtain ⟨s, G, Q0, hs, hg, h, k⟩ := h
  unfold uVar at h
  cases e : getS s i with
  | none => rw [e] at h; exact h.elim
  | some u =>
    rw [e] at h
    obtain ⟨v, e1, r⟩ := hs.at_ i u (getS_some e)
    exact ⟨v, e1, k u G v H h r hg .refl⟩

/-! ### numbers, texts, tuples, lists -/
def MulOk (i j : Int) : Prop := CMul i j ∨ CMulX i j
def DivOk (i j : Int) : Prop := CDiv i j ∨ CDivW i j
def uAdd : UOp := fun x y G Q => match x, y with
  | .int i, .int j => Q (.int (i + j)) G
  | .str a, .str b => a.length + b.length ≤ sizeLine ∧ Q (.str (a ++ b)) G
  | .tup a, .tup b => a.length + b.length ≤ sizeLine ∧ Q (.tup (a ++ b)) G
  | .ref a, .ref b => (match G a, G b with
    | some (.lst xs), some (.lst ys) => xs.length + ys.length ≤ sizeLine ∧ ∀ p, G p = none → Q (.ref p) (up G p (.lst (xs ++ ys)))
    | _, _ => False)
  | _, _ => False
def uSub : UOp := fun x y G Q => match x, y with
  | .int i, .int j => Q (.int (i - j)) G
  | _, _ => False
def uMul : UOp := fun x y G Q => match x, y with
  | .int i, .int j => MulOk i j ∧ Q (.int (i * j)) G
  | .ref a, .int k => (match G a with
    | some (.lst xs) => -(2 ^ 63) ≤ k ∧ k < 2 ^ 63 ∧ xs.length * k.toNat ≤ sizeLine ∧ ∀ p, G p = none → Q (.ref p) (up G p (.lst (List.replicate k.toNat xs).flatten))
    | _ => False)
  | .tup xs, .int k => xs ≠ [] ∧ 0 ≤ k ∧ k ≤ 1000 ∧ xs.length ≤ 1000 ∧ Q (.tup (List.replicate k.toNat xs).flatten) G
  | _, _ => False
def uDiv : UOp := fun x y G Q => match x, y with
  | .int i, .int j => DivOk i j ∧ Q (.int (i / j)) G
  | _, _ => False
def uMod : UOp := fun x y G Q => match x, y with
  | .int i, .int j => 0 < j ∧ Q (.int (i % j)) G
  | _, _ => False
def uPow : UOp := fun x y G Q => match x, y with
  | .int i, .int j => CPow i j ∧ Q (.int (i ^ j.toNat)) G
  | _, _ => False
theorem RU.tup_inv {K : PySem.W.Frag} {H : Hp} {us : List U} {v : V} (h : RU K H (.tup us) v) : ∃ a xs, v = .ref a ∧ SqT K H a xs ∧ RUs K H us xs := by
  cases h with
  | tup h r => exact ⟨_, _, rfl, h, r⟩
theorem RU.rol_inv {K : PySem.W.Frag} {H : Hp} {us : List U} {v : V} (h : RU K H (.rol us) v) : ∃ a xs, v = .ref a ∧ Frz K H a xs ∧ RUs K H us xs := by
  cases h with
  | rol h r => exact ⟨_, _, rfl, h, r⟩
theorem op_uAdd : OpR X (binaryOp .Add) (c2 X.K uAdd) := by
  intro pins s σ H x y v u Q I rx ry h
  obtain ⟨a, b, G, Q0, ra, rb, hg, h, k⟩ := h
  unfold uAdd at h
  split at h
  · cases ra; cases rb
    exact op_add pins s σ H _ _ v u Q I rx ry ⟨_, _, rfl, rfl, k _ G _ H h (.int _) hg .refl⟩
  · cases ra; cases rb
    exact op_add_str pins s σ H _ _ v u Q I rx ry ⟨_, _, rfl, rfl, h.1, k _ G _ H h.2 (.str _) hg .refl⟩
  · obtain ⟨p, xs, rfl, h1, r1⟩ := ra.tup_inv
    obtain ⟨q, ys, rfl, h2, r2⟩ := rb.tup_inv
    refine op_catA pins s σ H _ _ v u Q I rx ry ⟨p, q, xs, ys, rfl, rfl, h1, h2, by rw [← r1.length, ← r2.length]; exact h.1, fun e => ?_, fun _ e => ?_, fun _ _ l hl => ?_⟩
    · subst e; cases r1
      exact k _ G _ H h.2 (.tup h2 (by simpa using r2)) hg .refl
    · subst e; cases r2
      exact k _ G _ H h.2 (.tup h1 (by simpa using r1)) hg .refl
    · obtain ⟨e, g, r⟩ := hg.newTup hl (r1.append r2)
      exact k _ G _ _ h.2 r g e
  · rename_i a b
    cases ra; cases rb
    split at h
    · rename_i us ws e1 e2
      obtain ⟨xs, h1, r1⟩ := hg.lst e1
      obtain ⟨ys, h2, r2⟩ := hg.lst e2
      refine op_cat pins s σ H _ _ v u Q I rx ry ⟨a, b, xs, ys, rfl, rfl, h1, h2, by rw [← r1.length, ← r2.length]; exact h.1, fun p hp => ?_⟩
      obtain ⟨e, g⟩ := hg.newLst hp (r1.append r2)
      exact k _ _ _ _ (h.2 p (hg.fresh hp)) (.ref p) g e
    · exact h.elim
  · exact h.elim
theorem op_uSub : OpR X (binaryOp .Sub) (c2 X.K uSub) := by
  intro pins s σ H x y v u Q I rx ry h
  obtain ⟨a, b, G, Q0, ra, rb, hg, h, k⟩ := h
  unfold uSub at h
  split at h
  · cases ra; cases rb
    exact op_sub pins s σ H _ _ v u Q I rx ry ⟨_, _, rfl, rfl, k _ G _ H h (.int _) hg .refl⟩
  · exact h.elim
theorem op_uMul : OpR X (binaryOp .Mult) (c2 X.K uMul) := by
  intro pins s σ H x y v u Q I rx ry h
  obtain ⟨a, b, G, Q0, ra, rb, hg, h, k⟩ := h
  unfold uMul at h
  split at h
  · cases ra; cases rb
    have q := k _ G _ H h.2 (.int _) hg .refl
    rcases h.1 with m | m
    · exact op_mul pins s σ H _ _ v u Q I rx ry ⟨_, _, rfl, rfl, m, q⟩
    · exact op_mulX pins s σ H _ _ v u Q I rx ry ⟨_, _, rfl, rfl, m, q⟩
  · rename_i a kk
    cases ra; cases rb
    split at h
    · rename_i us e1
      obtain ⟨xs, h1, r1⟩ := hg.lst e1
      obtain ⟨b1, b2, b3, h⟩ := h
      refine op_rep pins s σ H _ _ v u Q I rx ry ⟨a, kk, xs, rfl, rfl, h1, b1, b2, by rw [← r1.length]; exact b3, fun p hp => ?_⟩
      obtain ⟨e, g⟩ := hg.newLst hp (RUs.reps r1 kk.toNat)
      exact k _ _ _ _ (h p (hg.fresh hp)) (.ref p) g e
    · exact h.elim
  · rename_i us kk
    obtain ⟨p, xs, rfl, h1, r1⟩ := ra.tup_inv
    cases rb
    obtain ⟨n0, b1, b2, b3, h⟩ := h
    have nx : xs ≠ [] := fun z => n0 (by subst z; cases r1; rfl)
    by_cases k2 : 2 ≤ kk
    · refine op_repT pins s σ H _ _ v u Q I rx ry ⟨p, kk, xs, rfl, rfl, h1, nx, k2, b2, by rw [← r1.length]; exact b3, fun l hl => ?_⟩
      obtain ⟨e, g, r⟩ := hg.newTup hl (RUs.reps r1 kk.toNat)
      exact k _ G _ _ h r g e
    · by_cases k1 : kk = 1
      · subst k1
        refine op_rep01 pins s σ H _ _ v u Q I rx ry ⟨p, 1, xs, rfl, rfl, h1, nx, .inr ⟨rfl, ?_⟩⟩
        exact k _ G _ H h (by
          have e : (List.replicate (1 : Int).toNat us).flatten = us := by
            show (List.replicate 1 us).flatten = us
            simp
          rw [e]; exact ra) hg .refl
      · have k0 : kk = 0 := by omega
        subst k0
        refine op_rep01 pins s σ H _ _ v u Q I rx ry ⟨p, 0, xs, rfl, rfl, h1, nx, .inl ⟨rfl, fun l hl => ?_⟩⟩
        obtain ⟨e, g, r⟩ := hg.newTup hl (ws := []) (ys := []) .nil
        exact k _ G _ _ h r g e
  · exact h.elim
theorem op_uDiv : OpR X (binaryOp .FloorDiv) (c2 X.K uDiv) := by
  intro pins s σ H x y v u Q I rx ry h
  obtain ⟨a, b, G, Q0, ra, rb, hg, h, k⟩ := h
  unfold uDiv at h
  split at h
  · cases ra; cases rb
    have q := k _ G _ H h.2 (.int _) hg .refl
    rcases h.1 with m | m
    · exact op_fdiv pins s σ H _ _ v u Q I rx ry ⟨_, _, rfl, rfl, m, q⟩
    · exact op_fdivW pins s σ H _ _ v u Q I rx ry ⟨_, _, rfl, rfl, m, q⟩
  · exact h.elim
theorem op_uMod : OpR X (binaryOp .Mod) (c2 X.K uMod) := by
  intro pins s σ H x y v u Q I rx ry h
  obtain ⟨a, b, G, Q0, ra, rb, hg, h, k⟩ := h
  unfold uMod at h
  split at h
  · cases ra; cases rb
    exact op_mod pins s σ H _ _ v u Q I rx ry ⟨_, _, rfl, rfl, h.1, k _ G _ H h.2 (.int _) hg .refl⟩
  · exact h.elim
theorem op_uPow : OpR X (binaryOp .Pow) (c2 X.K uPow) := by
  intro pins s σ H x y v u Q I rx ry h
  obtain ⟨a, b, G, Q0, ra, rb, hg, h, k⟩ := h
  unfold uPow at h
  split at h
  · cases ra; cases rb
    exact op_pow pins s σ H _ _ v u Q I rx ry ⟨_, _, rfl, rfl, h.1, k _ G _ H h.2 (.int _) hg .refl⟩
  · exact h.elim
def uNeg : U → UH → UK → Prop := fun x G Q => match x with
  | .int i => Q (.int (-i)) G
  | _ => False
theorem un_uNeg : UnR X (unaryOp .USub) (c1 X.K uNeg) := by
  intro pins s σ H x v Q I rx h
  obtain ⟨a, G, Q0, ra, hg, h, k⟩ := h
  unfold uNeg at h
  split at h
  · cases ra
    exact un_neg pins s σ H _ v Q I rx ⟨_, rfl, k _ G _ H h (.int _) hg .refl⟩
  · exact h.elim
def uOp : Operator → UOp
  | .Add => uAdd
  | .Sub => uSub
  | .Mult => uMul
  | .FloorDiv => uDiv
  | .Mod => uMod
  | .Pow => uPow
  | _ => fun _ _ _ _ => False
theorem op_any (op : Operator) : OpR X (binaryOp op) (c2 X.K (uOp op)) := by
  cases op with
  | Add => exact op_uAdd
  | Sub => exact op_uSub
  | Mult => exact op_uMul
  | FloorDiv => exact op_uDiv
  | Mod => exact op_uMod
  | Pow => exact op_uPow
  | _ =>
    intro pins s σ H x y v u Q I rx ry h
    obtain ⟨a, b, G, Q0, ra, rb, hg, h, k⟩ := h
    exact h.elim

/-! ### comparisons -/
mutual
def toD : U → Option PyData
  | .non => some .none
  | .bl b => some (.bool b)
  | .int i => some (.int i)
  | .str x => some (.str x)
  | .tup us => (toDs us).map .tuple
  | .rol us => (toDs us).map .list
  | .ref _ => none
  | .ty _ => none
def toDs : List U → Option (List PyData)
  | [] => some []
  | u :: us => (toD u).bind fun d => (toDs us).map fun ds => d :: ds
end
mutual
theorem dp_of {K : PySem.W.Frag} {H : Hp} : ∀ {u : U} {v : V} {d : PyData}, RU K H u v → toD u = some d → Dp K H v d
  | .non, _, _, .non, h => by simp [toD] at h; subst h; exact .non
  | .bl b, _, _, .bl _, h => by simp [toD] at h; subst h; exact .bl b
  | .int i, _, _, .int _, h => by simp [toD] at h; subst h; exact .int i
  | .str x, _, _, .str _, h => by simp [toD] at h; subst h; exact .str x
  | .tup us, _, _, .tup hq r, h => by
    simp only [toD, Option.map_eq_some_iff] at h
    obtain ⟨ds, h1, h2⟩ := h
    subst h2
    exact .tup hq (dps_of r h1)
  | .rol us, _, _, .rol hq r, h => by
    simp only [toD, Option.map_eq_some_iff] at h
    obtain ⟨ds, h1, h2⟩ := h
    subst h2
    exact .lst hq.sq (dps_of r h1)
  | .ref _, _, _, .ref _, h => by simp [toD] at h
  | .ty _, _, _, .ty _, h => by simp [toD] at h
theorem dps_of {K : PySem.W.Frag} {H : Hp} : ∀ {us : List U} {vs : List V} {ds : List PyData}, RUs K H us vs → toDs us = some ds → DpAll K H vs ds
  | [], _, _, .nil, h => by simp [toDs] at h; subst h; exact .nil
  | u :: us, _, _, .cons r t, h => by
    simp only [toDs, Option.bind_eq_some_iff, Option.map_eq_some_iff] at h
    obtain ⟨d, h1, ds, h2, h3⟩ := h
    subst h3
    exact .cons (dp_of r h1) (dps_of t h2)
end
/-- what is compared: a list at its place, its items by value -/
def dOf (G : UH) : U → Option PyData
  | .ref a => (match G a with
    | some (.lst us) => (toDs us).map .list
    | _ => none)
  | u => toD u
theorem dp_ofG {K : PySem.W.Frag} {H : Hp} {G : UH} (hg : HR K G H) {u : U} {v : V} {d : PyData} (r : RU K H u v) (h : dOf G u = some d) : Dp K H v d := by
  cases r with
  | ref a =>
    unfold dOf at h
    simp only at h
    split at h
    · rename_i us e
      obtain ⟨xs, h1, r1⟩ := hg.lst e
      simp only [Option.map_eq_some_iff] at h
      obtain ⟨ds, h2, h3⟩ := h
      subst h3
      exact .lst (SqL.of h1) (dps_of r1 h2)
    · cases h
  | non => exact dp_of .non h
  | bl b => exact dp_of (.bl b) h
  | int i => exact dp_of (.int i) h
  | str x => exact dp_of (.str x) h
  | tup hq r => exact dp_of (.tup hq r) h
  | rol hq r => exact dp_of (.rol hq r) h
  | ty n => exact dp_of (.ty n) h
def uEqF (neg : Bool) : UOp := fun x y G Q => match x, y with
  | .int i, .int j => Q (.bl (neg ^^ decide (i = j))) G
  | .str a, .str b => Q (.bl (neg ^^ decide (a = b))) G
  | .bl a, .bl b => Q (.bl (neg ^^ decide (a = b))) G
  | .non, .non => Q (.bl (neg ^^ true)) G
  | x, y => (match dOf G x, dOf G y with
    | some d, some e => SeqAt.shaped d = true ∧ SeqAt.shaped e = true ∧ Q (.bl (neg ^^ PyData.eqv d e)) G
    | _, _ => False)
theorem op_uEq (hu : X.A.units + 64 < cLine) : OpR X (compareOp .Eq) (c2 X.K (uEqF false)) := by
  intro pins s σ H x y v u Q I rx ry h
  obtain ⟨a, b, G, Q0, ra, rb, hg, h, k⟩ := h
  unfold uEqF at h
  split at h
  · cases ra; cases rb
    exact op_eq pins s σ H _ _ v u Q I rx ry ⟨rfl, by have q := k _ G _ H h (.bl _) hg .refl; simpa using q⟩
  · cases ra; cases rb
    exact op_eq pins s σ H _ _ v u Q I rx ry ⟨rfl, by have q := k _ G _ H h (.bl _) hg .refl; simpa using q⟩
  · cases ra; cases rb
    exact op_eq pins s σ H _ _ v u Q I rx ry ⟨rfl, by have q := k _ G _ H h (.bl _) hg .refl; simpa using q⟩
  · cases ra; cases rb
    exact op_eqD hu pins s σ H _ _ v u Q I rx ry ⟨.none, .none, .non, .non, by decide, by decide, by have q := k _ G _ H h (.bl _) hg .refl; simpa [PyData.eqv] using q⟩
  · split at h
    · rename_i d e h1 h2
      exact op_eqD hu pins s σ H _ _ v u Q I rx ry ⟨d, e, dp_ofG hg ra h1, dp_ofG hg rb h2, h.1, h.2.1, by have q := k _ G _ H h.2.2 (.bl _) hg .refl; simpa using q⟩
    · exact h.elim
theorem op_uNe (hu : X.A.units + 64 < cLine) : OpR X (compareOp .NotEq) (c2 X.K (uEqF true)) := by
  intro pins s σ H x y v u Q I rx ry h
  obtain ⟨a, b, G, Q0, ra, rb, hg, h, k⟩ := h
  unfold uEqF at h
  split at h
  · cases ra; cases rb
    exact op_ne pins s σ H _ _ v u Q I rx ry ⟨rfl, by have q := k _ G _ H h (.bl _) hg .refl; simpa using q⟩
  · cases ra; cases rb
    exact op_ne pins s σ H _ _ v u Q I rx ry ⟨rfl, by have q := k _ G _ H h (.bl _) hg .refl; simpa using q⟩
  · cases ra; cases rb
    exact op_ne pins s σ H _ _ v u Q I rx ry ⟨rfl, by have q := k _ G _ H h (.bl _) hg .refl; simpa using q⟩
  · cases ra; cases rb
    exact op_neD hu pins s σ H _ _ v u Q I rx ry ⟨.none, .none, .non, .non, by decide, by decide, by have q := k _ G _ H h (.bl _) hg .refl; simpa [PyData.eqv] using q⟩
  · split at h
    · rename_i d e h1 h2
      exact op_neD hu pins s σ H _ _ v u Q I rx ry ⟨d, e, dp_ofG hg ra h1, dp_ofG hg rb h2, h.1, h.2.1, by have q := k _ G _ H h.2.2 (.bl _) hg .refl; simpa using q⟩
    · exact h.elim
end
/-! ### [::c] -/
def uStp : UOp := fun x y G Q => match x, y with
  | .tup us, .int c => c ≠ 0 ∧ Q (.tup (stp us c)) G
  | _, _ => False
theorem RUs.stp {K : PySem.W.Frag} {H : Hp} {us : List U} {vs : List V} (r : RUs K H us vs) (c : Int) : RUs K H (stp us c) (stp vs c) := by
  unfold UL.stp
  rw [r.length]
  generalize stpN c vs.length = n
  have : ∀ (l : List Nat), RUs K H (l.filterMap fun (m : Nat) => us[(stpLo c vs.length + (m : Int) * c).toNat]?) (l.filterMap fun (m : Nat) => vs[(stpLo c vs.length + (m : Int) * c).toNat]?) := by
    intro l
    induction l with
    | nil => exact .nil
    | cons m l ih =>
      simp only [List.filterMap_cons]
      generalize (stpLo c vs.length + (m : Int) * c).toNat = j
      cases e : us[j]? with
      | none =>
        have : vs[j]? = none := by
          rw [List.getElem?_eq_none_iff] at e ⊢
          rw [← r.length]; exact e
        rw [this]; exact ih
      | some x =>
        obtain ⟨u, hu, ru⟩ := r.get e
        rw [hu]
        exact .cons ru ih
  exact this _
theorem cStp {K : PySem.W.Frag} {ta tb : UT} {σ : L2.St} {H : Hp} {Q : VK} (h : cE K (uBin uStp ta tb) σ H Q) : tStp K (cE K ta) (cE K tb) σ H Q := by
  obtain ⟨s, G, Q0, hs, hg, h, k⟩ := h
  refine ⟨s, G, _, hs, hg, h, fun x G1 v H1 h1 r1 g1 e1 => ⟨s, G1, _, hs.ext e1, g1, h1, fun y G2 v2 H2 h2 r2 g2 e2 => ?_⟩⟩
  have rx := RU.ext e2 r1
  unfold uStp at h2
  split at h2
  · obtain ⟨p, xs, rfl, hx, r3⟩ := rx.tup_inv
    cases r2
    refine ⟨p, _, xs, rfl, rfl, h2.1, hx, fun e => ?_, fun _ l hl => ?_⟩
    · subst e
      refine k _ G2 _ H2 h2.2 ?_ g2 (e1.trans e2)
      rw [stp_one]; exact rx
    · obtain ⟨e, g, r⟩ := g2.newTup hl (r3.stp _)
      exact k _ G2 _ _ h2.2 r g ((e1.trans e2).trans e)
  · exact h2.elim
end UL
set_option Elab.async false
set_option linter.all false
set_option autoImplicit false
set_option maxRecDepth 100000
set_option maxHeartbeats 4000000
/-! UL3: further operators, built-in functions, subscripts, methods by values. -/
namespace UL
open PySem PySem.Spec L2
section
variable {X : Cx}
/-! ### order -/
def uLt : UOp := fun x y G Q => match x, y with
  | .int i, .int j => Q (.bl (decide (i < j))) G
  | .str i, .str j => Q (.bl (decide (i.cps.toList < j.cps.toList))) G
  | _, _ => False
def uLe : UOp := fun x y G Q => match x, y with
  | .int i, .int j => Q (.bl (decide (i ≤ j))) G
  | .str i, .str j => Q (.bl (!decide (j.cps.toList < i.cps.toList))) G
  | _, _ => False
def uGt : UOp := fun x y G Q => match x, y with
  | .int i, .int j => Q (.bl (decide (j < i))) G
  | .str i, .str j => Q (.bl (decide (j.cps.toList < i.cps.toList))) G
  | _, _ => False
def uGe : UOp := fun x y G Q => match x, y with
  | .int i, .int j => Q (.bl (decide (j ≤ i))) G
  | .str i, .str j => Q (.bl (!decide (i.cps.toList < j.cps.toList))) G
  | _, _ => False
theorem op_uLt : OpR X (compareOp .Lt) (c2 X.K uLt) := by
  intro pins s σ H x y v u Q I rx ry h
  obtain ⟨a, b, G, Q0, ra, rb, hg, h, k⟩ := h
  unfold uLt at h
  split at h
  · cases ra; cases rb
    exact op_lt pins s σ H _ _ v u Q I rx ry ⟨_, _, rfl, rfl, k _ G _ H h (.bl _) hg .refl⟩
  · cases ra; cases rb
    exact op_lt_str pins s σ H _ _ v u Q I rx ry ⟨_, _, rfl, rfl, k _ G _ H h (.bl _) hg .refl⟩
  · exact h.elim
theorem op_uLe : OpR X (compareOp .LtE) (c2 X.K uLe) := by
  intro pins s σ H x y v u Q I rx ry h
  obtain ⟨a, b, G, Q0, ra, rb, hg, h, k⟩ := h
  unfold uLe at h
  split at h
  · cases ra; cases rb
    exact op_le pins s σ H _ _ v u Q I rx ry ⟨_, _, rfl, rfl, k _ G _ H h (.bl _) hg .refl⟩
  · cases ra; cases rb
    exact op_le_str pins s σ H _ _ v u Q I rx ry ⟨_, _, rfl, rfl, k _ G _ H h (.bl _) hg .refl⟩
  · exact h.elim
theorem op_uGt : OpR X (compareOp .Gt) (c2 X.K uGt) := by
  intro pins s σ H x y v u Q I rx ry h
  obtain ⟨a, b, G, Q0, ra, rb, hg, h, k⟩ := h
  unfold uGt at h
  split at h
  · cases ra; cases rb
    exact op_gt pins s σ H _ _ v u Q I rx ry ⟨_, _, rfl, rfl, k _ G _ H h (.bl _) hg .refl⟩
  · cases ra; cases rb
    exact op_gt_str pins s σ H _ _ v u Q I rx ry ⟨_, _, rfl, rfl, k _ G _ H h (.bl _) hg .refl⟩
  · exact h.elim
theorem op_uGe : OpR X (compareOp .GtE) (c2 X.K uGe) := by
  intro pins s σ H x y v u Q I rx ry h
  obtain ⟨a, b, G, Q0, ra, rb, hg, h, k⟩ := h
  unfold uGe at h
  split at h
  · cases ra; cases rb
    exact op_ge pins s σ H _ _ v u Q I rx ry ⟨_, _, rfl, rfl, k _ G _ H h (.bl _) hg .refl⟩
  · cases ra; cases rb
    exact op_ge_str pins s σ H _ _ v u Q I rx ry ⟨_, _, rfl, rfl, k _ G _ H h (.bl _) hg .refl⟩
  · exact h.elim

/-! ### in -/
def flatU : U → Bool
  | .non => true
  | .bl _ => true
  | .int _ => true
  | .str _ => true
  | _ => false
def eqU : U → U → Bool
  | .non, .non => true
  | .bl a, .bl b => a == b
  | .bl a, .int b => (if a then 1 else 0) == b
  | .int a, .bl b => a == (if b then 1 else 0)
  | .int a, .int b => a == b
  | .str a, .str b => a == b
  | _, _ => false
def inU (x : U) (xs : List U) : Bool := xs.any fun y => eqU y x
theorem flat_of {K : PySem.W.Frag} {H : Hp} {u : U} {v : V} (r : RU K H u v) (h : flatU u = true) : flatV v = true := by
  cases r <;> first | rfl | cases h
theorem flats_of {K : PySem.W.Frag} {H : Hp} : ∀ {us : List U} {vs : List V}, RUs K H us vs → us.all flatU = true → vs.all flatV = true
  | _, _, .nil, _ => rfl
  | _, _, .cons r t, h => by
    simp only [List.all_cons, Bool.and_eq_true] at h ⊢
    exact ⟨flat_of r h.1, flats_of t h.2⟩
theorem eqU_of' {K : PySem.W.Frag} {H : Hp} {u w : U} {v x : V} (r : RU K H u v) (q : RU K H w x) (h1 : flatU u = true) (h2 : flatU w = true) : eqV v x = eqU u w := by
  cases r <;> first
    | (cases q <;> first | rfl | cases h2)
    | cases h1
theorem inU_of {K : PySem.W.Frag} {H : Hp} {w : U} {x : V} (q : RU K H w x) (h2 : flatU w = true) : ∀ {us : List U} {vs : List V}, RUs K H us vs → us.all flatU = true → inV x vs = inU w us
  | _, _, .nil, _ => rfl
  | _, _, .cons r t, h => by
    simp only [List.all_cons, Bool.and_eq_true] at h
    have ih := inU_of q h2 t h.2
    unfold inV inU at *
    simp only [List.any_cons]
    rw [eqU_of' r q h.1 h2, ih]
def keyOf : U → Option Key
  | .int i => some (.inl i)
  | .str x => some (.inr x)
  | _ => none
theorem key_rel {K : PySem.W.Frag} {H : Hp} {u : U} {v : V} {k : Key} (r : RU K H u v) (h : keyOf u = some k) : v = kV k := by
  cases r <;> first
    | (simp [keyOf] at h; subst h; rfl)
    | (simp [keyOf] at h)
def lookK (kvs : List (Key × U)) (k : Key) : Option U := (kvs.find? fun kv => decide (kv.1 = k)).map (·.2)
theorem lookK_rel {K : PySem.W.Frag} {H : Hp} {kvs : List (Key × U)} {xs : List (Key × V)} (r : RKV K H kvs xs) (k : Key) :
    (lookK kvs k = none ∧ valV xs k = none) ∨ ∃ u v, lookK kvs k = some u ∧ valV xs k = some v ∧ RU K H u v := by
  unfold RKV at r
  induction r with
  | nil => exact .inl ⟨rfl, rfl⟩
  | @cons p q ps qs h _ ih =>
    by_cases e : p.1 = k
    · refine .inr ⟨p.2, q.2, ?_, ?_, h.2⟩
      · simp [lookK, List.find?_cons, e]
      · simp [valV, List.find?_cons, ← h.1, e]
    · rcases ih with ⟨h1, h2⟩ | ⟨u, v, h1, h2, h3⟩
      · refine .inl ⟨?_, ?_⟩
        · simpa [lookK, List.find?_cons, e] using h1
        · simpa [valV, List.find?_cons, ← h.1, e] using h2
      · refine .inr ⟨u, v, ?_, ?_, h3⟩
        · simpa [lookK, List.find?_cons, e] using h1
        · simpa [valV, List.find?_cons, ← h.1, e] using h2
def uInF (neg : Bool) : UOp := fun x y G Q => match y with
  | .tup us => flatU x = true ∧ us.all flatU = true ∧ Q (.bl (neg ^^ inU x us)) G
  | .rol us => flatU x = true ∧ us.all flatU = true ∧ Q (.bl (neg ^^ inU x us)) G
  | .ref a => (match G a with
    | some (.lst us) => flatU x = true ∧ us.all flatU = true ∧ Q (.bl (neg ^^ inU x us)) G
    | some (.dK kvs) => (match keyOf x with
      | some k => Q (.bl (neg ^^ (lookK kvs k).isSome)) G
      | none => False)
    | _ => False)
  | .str z => (match x with
    | .str w => w.length = 1 ∧ Q (.bl (neg ^^ decide (w.cps.getD 0 0 ∈ z.cps.toList))) G
    | _ => False)
  | _ => False
theorem str1 {w : Str} (h : w.length = 1) : w = ⟨#[w.cps.getD 0 0]⟩ := by
  obtain ⟨c⟩ := w
  have h' : c.size = 1 := h
  obtain ⟨l⟩ := c
  match l, h' with
  | [x], _ => rfl
theorem op_uIn (hu : X.A.units + 1 < cLine) : OpR X (compareOp .In) (c2 X.K (uInF false)) := by
  intro pins s σ H x y v u Q I rx ry h
  obtain ⟨a, b, G, Q0, ra, rb, hg, h, k⟩ := h
  unfold uInF at h
  simp only [Bool.false_bne] at h
  split at h
  · obtain ⟨p, xs, rfl, h1, r1⟩ := rb.tup_inv
    exact op_in_seq pins s σ H _ _ v u Q I rx ry ⟨p, xs, rfl, .inr h1, flat_of ra h.1, flats_of r1 h.2.1, by simpa [inU_of ra h.1 r1 h.2.1] using k _ G _ H h.2.2 (.bl _) hg .refl⟩
  · obtain ⟨p, xs, rfl, h1, r1⟩ := rb.rol_inv
    exact op_in_seq pins s σ H _ _ v u Q I rx ry ⟨p, xs, rfl, .inl h1.sq, flat_of ra h.1, flats_of r1 h.2.1, by simpa [inU_of ra h.1 r1 h.2.1] using k _ G _ H h.2.2 (.bl _) hg .refl⟩
  · rename_i p
    cases rb
    split at h
    · rename_i us e
      obtain ⟨xs, h1, r1⟩ := hg.lst e
      exact op_in_seq pins s σ H _ _ v u Q I rx ry ⟨p, xs, rfl, .inl (SqL.of h1), flat_of ra h.1, flats_of r1 h.2.1, by simpa [inU_of ra h.1 r1 h.2.1] using k _ G _ H h.2.2 (.bl _) hg .refl⟩
    · rename_i kvs e
      split at h
      · rename_i key ek
        obtain ⟨xs, h1, r1⟩ := hg p _ e
        have hk := key_rel ra ek
        subst hk
        cases (show u = Value.ref p from ry)
        refine d_in hu I (DGet.k (k := key) h1) rx fun s' I' => ⟨.bl (valV xs key).isSome, H, I', rfl, ?_⟩
        rcases lookK_rel r1 key with ⟨e1, e2⟩ | ⟨uu, vv, e1, e2, _⟩
        · rw [e1] at h; rw [e2]; exact k _ G _ H h (.bl _) hg .refl
        · rw [e1] at h; rw [e2]; exact k _ G _ H h (.bl _) hg .refl
      · exact h.elim
    · exact h.elim
  · rename_i z
    cases rb
    split at h
    · rename_i w
      cases ra
      exact op_in_sign pins s σ H _ _ v u Q I rx ry ⟨_, _, congrArg V.str (str1 h.1), rfl, by simpa using k _ G _ H h.2 (.bl _) hg .refl⟩
    · exact h.elim
  · exact h.elim
theorem op_uNotIn (hu : X.A.units + 1 < cLine) : OpR X (compareOp .NotIn) (c2 X.K (uInF true)) := by
  intro pins s σ H x y v u Q I rx ry h
  obtain ⟨a, b, G, Q0, ra, rb, hg, h, k⟩ := h
  unfold uInF at h
  simp only [Bool.true_bne] at h
  split at h
  · obtain ⟨p, xs, rfl, h1, r1⟩ := rb.tup_inv
    exact op_notIn_seq pins s σ H _ _ v u Q I rx ry ⟨p, xs, rfl, .inr h1, flat_of ra h.1, flats_of r1 h.2.1, by simpa [inU_of ra h.1 r1 h.2.1] using k _ G _ H h.2.2 (.bl _) hg .refl⟩
  · obtain ⟨p, xs, rfl, h1, r1⟩ := rb.rol_inv
    exact op_notIn_seq pins s σ H _ _ v u Q I rx ry ⟨p, xs, rfl, .inl h1.sq, flat_of ra h.1, flats_of r1 h.2.1, by simpa [inU_of ra h.1 r1 h.2.1] using k _ G _ H h.2.2 (.bl _) hg .refl⟩
  · rename_i p
    cases rb
    split at h
    · rename_i us e
      obtain ⟨xs, h1, r1⟩ := hg.lst e
      exact op_notIn_seq pins s σ H _ _ v u Q I rx ry ⟨p, xs, rfl, .inl (SqL.of h1), flat_of ra h.1, flats_of r1 h.2.1, by simpa [inU_of ra h.1 r1 h.2.1] using k _ G _ H h.2.2 (.bl _) hg .refl⟩
    · rename_i kvs e
      split at h
      · rename_i key ek
        obtain ⟨xs, h1, r1⟩ := hg p _ e
        have hk := key_rel ra ek
        subst hk
        cases (show u = Value.ref p from ry)
        refine d_notIn hu I (DGet.k (k := key) h1) rx fun s' I' => ⟨.bl (!(valV xs key).isSome), H, I', rfl, ?_⟩
        rcases lookK_rel r1 key with ⟨e1, e2⟩ | ⟨uu, vv, e1, e2, _⟩
        · rw [e1] at h; rw [e2]; exact k _ G _ H h (.bl _) hg .refl
        · rw [e1] at h; rw [e2]; exact k _ G _ H h (.bl _) hg .refl
      · exact h.elim
    · exact h.elim
  · rename_i z
    cases rb
    split at h
    · rename_i w
      cases ra
      exact op_notIn_sign pins s σ H _ _ v u Q I rx ry ⟨_, _, congrArg V.str (str1 h.1), rfl, by simpa using k _ G _ H h.2 (.bl _) hg .refl⟩
    · exact h.elim
  · exact h.elim

/-! ### is -/
def isNonU : U → Bool
  | .non => true
  | _ => false
theorem isNon_of {K : PySem.W.Frag} {H : Hp} {u : U} {v : V} (r : RU K H u v) : decide (v = V.non) = isNonU u := by
  cases r <;> first | rfl | exact decide_eq_false (by intro z; cases z)
def uIsF (neg : Bool) : UOp := fun x y G Q => match y with
  | .non => Q (.bl (neg ^^ isNonU x)) G
  | .bl b => (match x with
    | .bl a => Q (.bl (neg ^^ decide (a = b))) G
    | .int _ => Q (.bl neg) G
    | .non => Q (.bl neg) G
    | .str _ => Q (.bl neg) G
    | _ => False)
  | _ => False
theorem is_bool_other {M : Model} {A : Around} {E : Value → Shared → Prop} {s : Shared} {b : Bool} {v : Value} {Q : Value → Shared → Prop} {x : V} (r : RelV x v) (n : ∀ a, x ≠ .bl a) (f : flatV x = true) (h : Q (.bool false) s) : wpAny M A (compareOp .Is v (.bool b)) Q E s := by
  cases x with
  | non => cases r; exact wpAny_is_other rfl (fun z => nomatch z) h
  | bl a => exact absurd rfl (n a)
  | int i => obtain ⟨t, rfl⟩ := r; exact wpAny_is_other rfl (fun z => nomatch z) h
  | str i => obtain ⟨t, rfl⟩ := r; exact wpAny_is_other rfl (fun z => nomatch z) h
  | _ => cases f
theorem isnot_bool_other {M : Model} {A : Around} {E : Value → Shared → Prop} {s : Shared} {b : Bool} {v : Value} {Q : Value → Shared → Prop} {x : V} (r : RelV x v) (n : ∀ a, x ≠ .bl a) (f : flatV x = true) (h : Q (.bool true) s) : wpAny M A (compareOp .IsNot v (.bool b)) Q E s := by
  cases x with
  | non => cases r; exact wpAny_isNot_other rfl (fun z => nomatch z) h
  | bl a => exact absurd rfl (n a)
  | int i => obtain ⟨t, rfl⟩ := r; exact wpAny_isNot_other rfl (fun z => nomatch z) h
  | str i => obtain ⟨t, rfl⟩ := r; exact wpAny_isNot_other rfl (fun z => nomatch z) h
  | _ => cases f
theorem op_uIs : OpR X (compareOp .Is) (c2 X.K (uIsF false)) := by
  intro pins s σ H x y v u Q I rx ry h
  obtain ⟨a, b, G, Q0, ra, rb, hg, h, k⟩ := h
  unfold uIsF at h
  simp only [Bool.false_bne] at h
  split at h
  · cases rb
    exact op_isN pins s σ H _ _ v u Q I rx ry ⟨rfl, by rw [isNon_of ra]; exact k _ G _ H h (.bl _) hg .refl⟩
  · cases rb
    cases (show u = Value.bool _ from ry)
    split at h
    · cases ra
      exact op_isBl pins s σ H _ (.bl _) v _ Q I rx rfl ⟨_, _, rfl, rfl, k _ G _ H h (.bl _) hg .refl⟩
    · cases ra
      exact is_bool_other rx (by intro a z; cases z) rfl ⟨.bl false, H, I, rfl, k _ G _ H h (.bl _) hg .refl⟩
    · cases ra
      exact is_bool_other rx (by intro a z; cases z) rfl ⟨.bl false, H, I, rfl, k _ G _ H h (.bl _) hg .refl⟩
    · cases ra
      exact is_bool_other rx (by intro a z; cases z) rfl ⟨.bl false, H, I, rfl, k _ G _ H h (.bl _) hg .refl⟩
    · exact h.elim
  · exact h.elim
theorem op_uIsNot : OpR X (compareOp .IsNot) (c2 X.K (uIsF true)) := by
  intro pins s σ H x y v u Q I rx ry h
  obtain ⟨a, b, G, Q0, ra, rb, hg, h, k⟩ := h
  unfold uIsF at h
  simp only [Bool.true_bne] at h
  split at h
  · cases rb
    exact op_notN pins s σ H _ _ v u Q I rx ry ⟨rfl, by rw [isNon_of ra]; exact k _ G _ H h (.bl _) hg .refl⟩
  · cases rb
    cases (show u = Value.bool _ from ry)
    split at h
    · cases ra
      exact op_notBl pins s σ H _ (.bl _) v _ Q I rx rfl ⟨_, _, rfl, rfl, k _ G _ H h (.bl _) hg .refl⟩
    · cases ra
      exact isnot_bool_other rx (by intro a z; cases z) rfl ⟨.bl true, H, I, rfl, k _ G _ H h (.bl _) hg .refl⟩
    · cases ra
      exact isnot_bool_other rx (by intro a z; cases z) rfl ⟨.bl true, H, I, rfl, k _ G _ H h (.bl _) hg .refl⟩
    · cases ra
      exact isnot_bool_other rx (by intro a z; cases z) rfl ⟨.bl true, H, I, rfl, k _ G _ H h (.bl _) hg .refl⟩
    · exact h.elim
  · exact h.elim
def uCmp : CmpOp → UOp
  | .Eq => uEqF false
  | .NotEq => uEqF true
  | .Lt => uLt
  | .LtE => uLe
  | .Gt => uGt
  | .GtE => uGe
  | .In => uInF false
  | .NotIn => uInF true
  | .Is => uIsF false
  | .IsNot => uIsF true
theorem cmp_any (hu : X.A.units + 64 < cLine) (op : CmpOp) : OpR X (compareOp op) (c2 X.K (uCmp op)) := by
  cases op with
  | Eq => exact op_uEq hu
  | NotEq => exact op_uNe hu
  | Lt => exact op_uLt
  | LtE => exact op_uLe
  | Gt => exact op_uGt
  | GtE => exact op_uGe
  | In => exact op_uIn (by omega)
  | NotIn => exact op_uNotIn (by omega)
  | Is => exact op_uIs
  | IsNot => exact op_uIsNot

/-! ### truth -/
def uTru (u : U) (G : UH) (Q : Bool → UH → Prop) : Prop := match u with
  | .non => Q false G
  | .bl b => Q b G
  | .int i => Q (i != 0) G
  | .str x => x.length ≤ sizeLine ∧ Q ((x.length : Int) != 0) G
  | .tup us => Q (!us.isEmpty) G
  | .rol us => Q (!us.isEmpty) G
  | .ref a => (match G a with
    | some (.lst us) => Q (!us.isEmpty) G
    | some (.dK us) => Q (!us.isEmpty) G
    | _ => False)
  | .ty _ => False
theorem RUs.isEmpty {K : PySem.W.Frag} {H : Hp} {us : List U} {vs : List V} (r : RUs K H us vs) : vs.isEmpty = us.isEmpty := by
  cases r <;> rfl
theorem RKV.isEmpty {K : PySem.W.Frag} {H : Hp} {κ : Type} {us : List (κ × U)} {vs : List (κ × V)} (r : RKV K H us vs) : vs.isEmpty = us.isEmpty := by
  cases r <;> rfl
theorem tru_u {H : Hp} {G : UH} {u : U} {v : V} {Q : Bool → UH → Prop} (hg : HR X.K G H) (r : RU X.K H u v) (h : uTru u G Q) : ∃ k, TruV X.K v H k ∧ Q k G := by
  unfold uTru at h
  split at h
  · cases r; exact ⟨_, rfl, h⟩
  · cases r; exact ⟨_, rfl, h⟩
  · cases r; exact ⟨_, rfl, h⟩
  · cases r; exact ⟨_, ⟨h.1, rfl⟩, h.2⟩
  · obtain ⟨a, xs, rfl, h1, r1⟩ := r.tup_inv
    exact ⟨_, .inr (.inl ⟨xs, h1, rfl⟩), by rw [r1.isEmpty]; exact h⟩
  · obtain ⟨a, xs, rfl, h1, r1⟩ := r.rol_inv
    exact ⟨_, .inl ⟨xs, h1.sq, rfl⟩, by rw [r1.isEmpty]; exact h⟩
  · cases r
    split at h
    · rename_i e
      obtain ⟨xs, h1, r1⟩ := hg.lst e
      exact ⟨_, .inl ⟨xs, SqL.of h1, rfl⟩, by rw [r1.isEmpty]; exact h⟩
    · rename_i e
      obtain ⟨xs, h1, r1⟩ := hg _ _ e
      exact ⟨_, .inr (.inr ⟨xs, h1, rfl⟩), by rw [r1.isEmpty]; exact h⟩
    · exact h.elim
  · exact h.elim

/-! ### isinstance -/
def tyN (G : UH) : U → Option String
  | .non => some "NoneType"
  | .bl _ => some "bool"
  | .int _ => some "int"
  | .str _ => some "str"
  | .tup _ => some "tuple"
  | .rol _ => some "list"
  | .ref a => (match G a with
    | some (.lst _) => some "list"
    | some (.dK _) => some "dict"
    | _ => none)
  | .ty _ => none
theorem tyX_of {H : Hp} {G : UH} (hg : HR X.K G H) {u : U} {v : V} {t : String} (r : RU X.K H u v) (h : tyN G u = some t) : TyX X.K H v (.type t) := by
  cases r with
  | non => cases h; exact .base .non
  | bl b => cases h; exact .base (.bl b)
  | int b => cases h; exact .base (.int b)
  | str b => cases h; exact .base (.str b)
  | tup hq r =>
    cases h
    rcases hq with (h1 | ⟨o, h1⟩) | ⟨o, its, n, h1, h2, _⟩
    · exact .base (.tup h1)
    · exact .fTuple h1
    · exact .kTuple h1 h2
  | rol hq r =>
    cases h
    rcases hq with ⟨o, h1⟩ | ⟨o, its, n, h1, h2, _⟩
    · exact .base (.frz h1)
    · exact .kList h1 h2
  | ref a =>
    unfold tyN at h
    simp only at h
    split at h
    · rename_i e
      cases h
      obtain ⟨xs, h1, _⟩ := hg.lst e
      exact .base (.lst h1)
    · rename_i e
      cases h
      obtain ⟨xs, h1, _⟩ := hg _ _ e
      exact .base (.dK h1)
    · cases h
  | ty n => cases h
def isSub (a b : String) : Bool := a == b || (a == "bool" && b == "int")
def tyNames : List String := ["NoneType", "bool", "int", "str", "tuple", "list", "dict"]
theorem kit_sub {K : PySem.W.Frag} {a b : String} (ha : a ∈ tyNames) (hb : b ∈ tyNames) : PySem.W.kitOne K (.type a) (.type b) = some (isSub a b) := by
  refine kit_ty ?_
  revert ha hb
  have h : ∀ a ∈ tyNames, ∀ b ∈ tyNames, kitB a b = some (isSub a b) := by decide +kernel
  exact fun ha hb => h a ha b hb
theorem tyN_mem {G : UH} {u : U} {t : String} (h : tyN G u = some t) : t ∈ tyNames := by
  unfold tyN at h
  split at h <;> first
    | (cases h; done)
    | (cases h; decide)
    | (split at h <;> first | (cases h; done) | (cases h; decide))
/-- isinstance(x, T) -/
def uIsi : UFn := fun us G Q => match us with
  | [x, .ty b] => (match tyN G x with
    | some a => b ∈ tyNames ∧ Q (.bl (isSub a b)) G
    | none => False)
  | _ => False
theorem call_uIsi : CallR X (.builtin "isinstance") (cF X.K uIsi) := by
  intro pins s σ H xs us Q I r h
  obtain ⟨ws, G, Q0, rw', hg, h, k⟩ := h
  unfold uIsi at h
  split at h
  · cases rw' with
    | cons r1 rt =>
      cases rt with
      | cons r2 rt =>
        cases rt
        cases r2
        split at h
        · rename_i a e
          exact call_isi pins s σ H _ us Q I r ⟨_, _, _, _, _, rfl, .ty _, tyX_of hg r1 e, kit_sub (tyN_mem e) h.1, k _ G _ H h.2 (.bl _) hg .refl⟩
        · exact h.elim
  · exact h.elim
end
end UL
set_option Elab.async false
set_option linter.all false
set_option autoImplicit false
set_option maxRecDepth 100000
set_option maxHeartbeats 4000000
/-! UL4: built-in functions, subscripts, slices, methods by values. -/
namespace UL
open PySem PySem.Spec L2
section
variable {X : Cx}
def intsOf : List U → Option (List Int)
  | [] => some []
  | .int i :: us => (intsOf us).map fun ns => i :: ns
  | _ :: _ => none
theorem intsOf_eq : ∀ {us : List U} {ns : List Int}, intsOf us = some ns → us = ns.map U.int
  | [], _, h => by cases h; rfl
  | .int i :: us, _, h => by
    simp only [intsOf, Option.map_eq_some_iff] at h
    obtain ⟨ns, h1, h2⟩ := h
    subst h2
    rw [intsOf_eq h1]; rfl
  | .non :: us, _, h => by cases h
  | .bl _ :: us, _, h => by cases h
  | .str _ :: us, _, h => by cases h
  | .tup _ :: us, _, h => by cases h
  | .rol _ :: us, _, h => by cases h
  | .ref _ :: us, _, h => by cases h
  | .ty _ :: us, _, h => by cases h
theorem intsOf_map : ∀ ns : List Int, intsOf (ns.map U.int) = some ns
  | [] => rfl
  | n :: ns => by simp [intsOf, intsOf_map ns]
def blsOf : List U → Option (List Bool)
  | [] => some []
  | .bl i :: us => (blsOf us).map fun ns => i :: ns
  | _ :: _ => none
theorem blsOf_eq : ∀ {us : List U} {ns : List Bool}, blsOf us = some ns → us = ns.map U.bl
  | [], _, h => by cases h; rfl
  | .bl i :: us, _, h => by
    simp only [blsOf, Option.map_eq_some_iff] at h
    obtain ⟨ns, h1, h2⟩ := h
    subst h2
    rw [blsOf_eq h1]; rfl
  | .non :: us, _, h => by cases h
  | .int _ :: us, _, h => by cases h
  | .str _ :: us, _, h => by cases h
  | .tup _ :: us, _, h => by cases h
  | .rol _ :: us, _, h => by cases h
  | .ref _ :: us, _, h => by cases h
  | .ty _ :: us, _, h => by cases h
theorem blsOf_map : ∀ ns : List Bool, blsOf (ns.map U.bl) = some ns
  | [] => rfl
  | n :: ns => by simp [blsOf, blsOf_map ns]
def strsOf : List U → Option (List Str)
  | [] => some []
  | .str i :: us => (strsOf us).map fun ns => i :: ns
  | _ :: _ => none
theorem strsOf_eq : ∀ {us : List U} {ns : List Str}, strsOf us = some ns → us = ns.map U.str
  | [], _, h => by cases h; rfl
  | .str i :: us, _, h => by
    simp only [strsOf, Option.map_eq_some_iff] at h
    obtain ⟨ns, h1, h2⟩ := h
    subst h2
    rw [strsOf_eq h1]; rfl
  | .non :: us, _, h => by cases h
  | .int _ :: us, _, h => by cases h
  | .bl _ :: us, _, h => by cases h
  | .tup _ :: us, _, h => by cases h
  | .rol _ :: us, _, h => by cases h
  | .ref _ :: us, _, h => by cases h
  | .ty _ :: us, _, h => by cases h
theorem strsOf_map : ∀ ns : List Str, strsOf (ns.map U.str) = some ns
  | [] => rfl
  | n :: ns => by simp [strsOf, strsOf_map ns]

theorem rus1 {K : PySem.W.Frag} {H : Hp} {u : U} {xs : List V} (r : RUs K H [u] xs) : ∃ x, xs = [x] ∧ RU K H u x := by
  cases r with
  | cons r t => cases t; exact ⟨_, rfl, r⟩
theorem rus2 {K : PySem.W.Frag} {H : Hp} {u w : U} {xs : List V} (r : RUs K H [u, w] xs) : ∃ x y, xs = [x, y] ∧ RU K H u x ∧ RU K H w y := by
  cases r with
  | cons r t => obtain ⟨y, rfl, q⟩ := rus1 t; exact ⟨_, _, rfl, r, q⟩

/-! ### built-in functions -/
inductive Blt where
  | len | abs | max2 | min2 | int | str | ord | sum | sorted | tuple | list | all | any | maxL | minL | divmod | isi
  deriving DecidableEq
def uLen : UFn := fun us G Q => match us with
  | [.str x] => x.length ≤ sizeLine ∧ Q (.int x.length) G
  | [.tup us] => Q (.int us.length) G
  | [.rol us] => Q (.int us.length) G
  | [.ref a] => (match G a with
    | some (.lst us) => Q (.int us.length) G
    | some (.dK us) => Q (.int us.length) G
    | _ => False)
  | _ => False
theorem call_uLen : CallR X (.builtin "len") (cF X.K uLen) := by
  intro pins s σ H xs us Q I r h
  obtain ⟨ws, G, Q0, rw', hg, h, k⟩ := h
  unfold uLen at h
  split at h
  · obtain ⟨x, rfl, q⟩ := rus1 rw'
    cases q
    exact call_len pins s σ H _ us Q I r ⟨_, _, rfl, ⟨h.1, rfl⟩, k _ G _ H h.2 (.int _) hg .refl⟩
  · obtain ⟨x, rfl, q⟩ := rus1 rw'
    obtain ⟨a, ys, rfl, h1, r1⟩ := q.tup_inv
    exact call_len pins s σ H _ us Q I r ⟨_, ys.length, rfl, .inr ⟨ys, h1, rfl⟩, by rw [← r1.length]; exact k _ G _ H h (.int _) hg .refl⟩
  · obtain ⟨x, rfl, q⟩ := rus1 rw'
    obtain ⟨a, ys, rfl, h1, r1⟩ := q.rol_inv
    exact call_len pins s σ H _ us Q I r ⟨_, ys.length, rfl, .inl ⟨ys, h1.sq, rfl⟩, by rw [← r1.length]; exact k _ G _ H h (.int _) hg .refl⟩
  · rename_i a
    obtain ⟨x, rfl, q⟩ := rus1 rw'
    cases q
    split at h
    · rename_i e
      obtain ⟨ys, h1, r1⟩ := hg.lst e
      exact call_len pins s σ H _ us Q I r ⟨_, ys.length, rfl, .inl ⟨ys, SqL.of h1, rfl⟩, by rw [← r1.length]; exact k _ G _ H h (.int _) hg .refl⟩
    · rename_i ks e
      obtain ⟨ys, h1, r1⟩ := hg a _ e
      have hl : ks.length = ys.length := Paired.length r1
      obtain ⟨w', rfl, rr⟩ := vals1 r
      cases rr
      exact d_len I (.inl h1) fun t s' I' => ⟨.int ys.length, H, I', ⟨t, rfl⟩, by rw [← hl]; exact k _ G _ H h (.int _) hg .refl⟩
    · exact h.elim
  · exact h.elim
def uAbs : UFn := fun us G Q => match us with
  | [.int i] => Q (.int i.natAbs) G
  | _ => False
theorem call_uAbs : CallR X (.builtin "abs") (cF X.K uAbs) := by
  intro pins s σ H xs us Q I r h
  obtain ⟨ws, G, Q0, rw', hg, h, k⟩ := h
  unfold uAbs at h
  split at h
  · rename_i i
    obtain ⟨x, rfl, q⟩ := rus1 rw'
    cases q
    refine call_abs pins s σ H _ us Q I r ⟨_, rfl, ?_⟩
    have e : (if i < 0 then -i else i) = (i.natAbs : Int) := by split <;> omega
    rw [e]
    exact k _ G _ H h (.int _) hg .refl
  · exact h.elim
def uMax2 : UFn := fun us G Q => match us with
  | [.int i, .int j] => Q (.int (max i j)) G
  | _ => False
theorem call_uMax2 (hc : X.calm = true) : CallR X (.builtin "max") (cF X.K uMax2) := by
  intro pins s σ H xs us Q I r h
  obtain ⟨ws, G, Q0, rw', hg, h, k⟩ := h
  unfold uMax2 at h
  split at h
  · rename_i i j
    obtain ⟨x, y, rfl, q1, q2⟩ := rus2 rw'
    cases q1; cases q2
    refine call_max2 hc pins s σ H _ us Q I r ⟨_, _, rfl, ?_⟩
    have e : (if j > i then j else i) = max i j := by split <;> omega
    rw [e]
    exact k _ G _ H h (.int _) hg .refl
  · exact h.elim
def uMin2 : UFn := fun us G Q => match us with
  | [.int i, .int j] => Q (.int (min i j)) G
  | _ => False
theorem call_uMin2 (hc : X.calm = true) : CallR X (.builtin "min") (cF X.K uMin2) := by
  intro pins s σ H xs us Q I r h
  obtain ⟨ws, G, Q0, rw', hg, h, k⟩ := h
  unfold uMin2 at h
  split at h
  · rename_i i j
    obtain ⟨x, y, rfl, q1, q2⟩ := rus2 rw'
    cases q1; cases q2
    refine call_min2 hc pins s σ H _ us Q I r ⟨_, _, rfl, ?_⟩
    have e : (if j < i then j else i) = min i j := by split <;> omega
    rw [e]
    exact k _ G _ H h (.int _) hg .refl
  · exact h.elim
def uInt : UFn := fun us G Q => match us with
  | [.int i] => Q (.int i) G
  | [.bl b] => Q (.int (if b then 1 else 0)) G
  | [.str a] => (match PySem.intText? a with
    | some n => a.length ≤ 640 ∧ Q (.int n) G
    | none => False)
  | _ => False
theorem call_uInt : CallR X (.type "int") (cF X.K uInt) := by
  intro pins s σ H xs us Q I r h
  obtain ⟨ws, G, Q0, rw', hg, h, k⟩ := h
  unfold uInt at h
  split at h
  · obtain ⟨x, rfl, q⟩ := rus1 rw'
    cases q
    exact call_int1 pins s σ H _ us Q I r (.inl ⟨_, rfl, k _ G _ H h (.int _) hg .refl⟩)
  · obtain ⟨x, rfl, q⟩ := rus1 rw'
    cases q
    exact call_int1 pins s σ H _ us Q I r (.inr ⟨_, rfl, k _ G _ H h (.int _) hg .refl⟩)
  · obtain ⟨x, rfl, q⟩ := rus1 rw'
    cases q
    split at h
    · rename_i n e
      exact call_int_str pins s σ H _ us Q I r ⟨_, _, rfl, e, h.1, k _ G _ H h.2 (.int _) hg .refl⟩
    · exact h.elim
  · exact h.elim
def uStr : UFn := fun us G Q => match us with
  | [.int i] => i.natAbs.log2 < 1920 ∧ Q (.str (toString i)) G
  | _ => False
theorem call_uStr : CallR X (.type "str") (cF X.K uStr) := by
  intro pins s σ H xs us Q I r h
  obtain ⟨ws, G, Q0, rw', hg, h, k⟩ := h
  unfold uStr at h
  split at h
  · obtain ⟨x, rfl, q⟩ := rus1 rw'
    cases q
    exact call_str_int pins s σ H _ us Q I r ⟨_, rfl, h.1, k _ G _ H h.2 (.str _) hg .refl⟩
  · exact h.elim
def uOrd : UFn := fun us G Q => match us with
  | [.str x] => x.length = 1 ∧ Q (.int (x.cps.getD 0 0 : Nat)) G
  | _ => False
theorem call_uOrd : CallR X (.builtin "ord") (cF X.K uOrd) := by
  intro pins s σ H xs us Q I r h
  obtain ⟨ws, G, Q0, rw', hg, h, k⟩ := h
  unfold uOrd at h
  split at h
  · obtain ⟨x, rfl, q⟩ := rus1 rw'
    cases q
    exact call_ord pins s σ H _ us Q I r ⟨_, rfl, h.1, k _ G _ H h.2 (.int _) hg .refl⟩
  · exact h.elim
/-- a list of ints at a place, or a locked one -/
def uIntL (us : List U) (G : UH) (k : List Int → Prop) : Prop := match us with
  | [.ref a] => (match G a with
    | some (.lst us) => (match intsOf us with
      | some ns => k ns
      | none => False)
    | _ => False)
  | _ => False
theorem intL_of {K : PySem.W.Frag} {H : Hp} {G : UH} (hg : HR K G H) {us : List U} {xs : List V} (r : RUs K H us xs) {k : List Int → Prop} (h : uIntL us G k) :
    ∃ a ns, xs = [.ref a] ∧ H a = some (.lst (ns.map V.int)) ∧ G a = some (.lst (ns.map U.int)) ∧ k ns := by
  unfold uIntL at h
  split at h
  · obtain ⟨x, rfl, q⟩ := rus1 r
    cases q
    split at h
    · rename_i us e
      split at h
      · rename_i ns e2
        obtain ⟨ys, h1, r1⟩ := hg.lst e
        have e3 := intsOf_eq e2
        subst e3
        have e4 := RUs.ints r1
        subst e4
        exact ⟨_, ns, rfl, h1, e, h⟩
      · exact h.elim
    · exact h.elim
  · exact h.elim
def uSum : UFn := fun us G Q => uIntL us G fun ns => Q (.int ns.sum) G
theorem call_uSum (hc : X.calm = true) : CallR X (.builtin "sum") (cF X.K uSum) := by
  intro pins s σ H xs us Q I r h
  obtain ⟨ws, G, Q0, rw', hg, h, k⟩ := h
  obtain ⟨a, ns, rfl, h1, _, h⟩ := intL_of hg rw' h
  exact cr_sum hc pins s σ H _ us Q I r ⟨a, ns, rfl, SqL.of h1, k _ G _ H h (.int _) hg .refl⟩
def uMaxL : UFn := fun us G Q => uIntL us G fun ns => 0 < ns.length ∧ ∀ m, m ∈ ns → (∀ y, y ∈ ns → y ≤ m) → Q (.int m) G
theorem call_uMaxL (hc : X.calm = true) : CallR X (.builtin "max") (cF X.K uMaxL) := by
  intro pins s σ H xs us Q I r h
  obtain ⟨ws, G, Q0, rw', hg, h, k⟩ := h
  obtain ⟨a, ns, rfl, h1, _, h⟩ := intL_of hg rw' h
  exact cr_max hc pins s σ H _ us Q I r ⟨a, ns, rfl, SqL.of h1, h.1, fun m h3 h4 => k _ G _ H (h.2 m h3 h4) (.int _) hg .refl⟩
def uMinL : UFn := fun us G Q => uIntL us G fun ns => 0 < ns.length ∧ ∀ m, m ∈ ns → (∀ y, y ∈ ns → m ≤ y) → Q (.int m) G
theorem call_uMinL (hc : X.calm = true) : CallR X (.builtin "min") (cF X.K uMinL) := by
  intro pins s σ H xs us Q I r h
  obtain ⟨ws, G, Q0, rw', hg, h, k⟩ := h
  obtain ⟨a, ns, rfl, h1, _, h⟩ := intL_of hg rw' h
  exact cr_min hc pins s σ H _ us Q I r ⟨a, ns, rfl, SqL.of h1, h.1, fun m h3 h4 => k _ G _ H (h.2 m h3 h4) (.int _) hg .refl⟩
def uSorted : UFn := fun us G Q => uIntL us G fun ns => ∀ ns' : List Int, ns'.Perm ns → ns'.Pairwise (· ≤ ·) → ∀ p, G p = none → Q (.ref p) (up G p (.lst (ns'.map U.int)))
theorem call_uSorted : CallR X (.builtin "sorted") (cF X.K uSorted) := by
  intro pins s σ H xs us Q I r h
  obtain ⟨ws, G, Q0, rw', hg, h, k⟩ := h
  obtain ⟨a, ns, rfl, h1, _, h⟩ := intL_of hg rw' h
  refine cr_sortedI pins s σ H _ us Q I r ⟨a, ns, rfl, SqL.of h1, fun ns' p p1 p2 hp => ?_⟩
  obtain ⟨e, g⟩ := hg.newLst hp (RUs.of_ints ns')
  exact k _ _ _ _ (h ns' p1 p2 p (hg.fresh hp)) (.ref p) g e
def uTuple : UFn := fun us G Q => match us with
  | [.tup us] => Q (.tup us) G
  | [.rol us] => Q (.tup us) G
  | [.ref a] => (match G a with
    | some (.lst us) => Q (.tup us) G
    | _ => False)
  | _ => False
theorem call_uTuple : CallR X (.type "tuple") (cF X.K uTuple) := by
  intro pins s σ H xs us Q I r h
  obtain ⟨ws, G, Q0, rw', hg, h, k⟩ := h
  unfold uTuple at h
  split at h
  · obtain ⟨x, rfl, q⟩ := rus1 rw'
    obtain ⟨a, ys, rfl, h1, r1⟩ := q.tup_inv
    exact call_tuple_of pins s σ H _ us Q I r ⟨a, ys, rfl, .inr ⟨h1, k _ G _ H h q hg .refl⟩⟩
  · obtain ⟨x, rfl, q⟩ := rus1 rw'
    obtain ⟨a, ys, rfl, h1, r1⟩ := q.rol_inv
    refine call_tuple_of pins s σ H _ us Q I r ⟨a, ys, rfl, .inl ⟨h1.sq, fun l hl => ?_⟩⟩
    obtain ⟨e, g, q⟩ := hg.newTup hl r1
    exact k _ G _ _ h q g e
  · obtain ⟨x, rfl, q⟩ := rus1 rw'
    cases q
    split at h
    · rename_i e
      obtain ⟨ys, h1, r1⟩ := hg.lst e
      refine call_tuple_of pins s σ H _ us Q I r ⟨_, ys, rfl, .inl ⟨SqL.of h1, fun l hl => ?_⟩⟩
      obtain ⟨e, g, q⟩ := hg.newTup hl r1
      exact k _ G _ _ h q g e
    · exact h.elim
  · exact h.elim
def uList : UFn := fun us G Q => match us with
  | [.tup us] => ∀ p, G p = none → Q (.ref p) (up G p (.lst us))
  | [.rol us] => ∀ p, G p = none → Q (.ref p) (up G p (.lst us))
  | [.ref a] => (match G a with
    | some (.lst us) => ∀ p, G p = none → Q (.ref p) (up G p (.lst us))
    | _ => False)
  | _ => False
theorem call_uList : CallR X (.type "list") (cF X.K uList) := by
  intro pins s σ H xs us Q I r h
  obtain ⟨ws, G, Q0, rw', hg, h, k⟩ := h
  unfold uList at h
  split at h
  · obtain ⟨x, rfl, q⟩ := rus1 rw'
    obtain ⟨a, ys, rfl, h1, r1⟩ := q.tup_inv
    refine call_list_of pins s σ H _ us Q I r ⟨a, ys, rfl, .inr h1, fun l hl => ?_⟩
    obtain ⟨e, g⟩ := hg.newLst hl r1
    exact k _ _ _ _ (h l (hg.fresh hl)) (.ref l) g e
  · obtain ⟨x, rfl, q⟩ := rus1 rw'
    obtain ⟨a, ys, rfl, h1, r1⟩ := q.rol_inv
    refine call_list_of pins s σ H _ us Q I r ⟨a, ys, rfl, .inl h1.sq, fun l hl => ?_⟩
    obtain ⟨e, g⟩ := hg.newLst hl r1
    exact k _ _ _ _ (h l (hg.fresh hl)) (.ref l) g e
  · obtain ⟨x, rfl, q⟩ := rus1 rw'
    cases q
    split at h
    · rename_i e
      obtain ⟨ys, h1, r1⟩ := hg.lst e
      refine call_list_of pins s σ H _ us Q I r ⟨_, ys, rfl, .inl (SqL.of h1), fun l hl => ?_⟩
      obtain ⟨e, g⟩ := hg.newLst hl r1
      exact k _ _ _ _ (h l (hg.fresh hl)) (.ref l) g e
    · exact h.elim
  · exact h.elim
def uBlL (us : List U) (G : UH) (k : List Bool → Prop) : Prop := match us with
  | [.ref a] => (match G a with
    | some (.lst us) => (match blsOf us with
      | some ns => k ns
      | none => False)
    | _ => False)
  | _ => False
theorem blL_of {K : PySem.W.Frag} {H : Hp} {G : UH} (hg : HR K G H) {us : List U} {xs : List V} (r : RUs K H us xs) {k : List Bool → Prop} (h : uBlL us G k) :
    ∃ a ns, xs = [.ref a] ∧ H a = some (.lst (ns.map V.bl)) ∧ k ns := by
  unfold uBlL at h
  split at h
  · obtain ⟨x, rfl, q⟩ := rus1 r
    cases q
    split at h
    · rename_i us e
      split at h
      · rename_i ns e2
        obtain ⟨ys, h1, r1⟩ := hg.lst e
        have e3 := blsOf_eq e2
        subst e3
        have e4 := RUs.bls r1
        subst e4
        exact ⟨_, ns, rfl, h1, h⟩
      · exact h.elim
    · exact h.elim
  · exact h.elim
def uAll : UFn := fun us G Q => uBlL us G fun bs => Q (.bl (bs.all id)) G
theorem call_uAll (hc : X.calm = true) : CallR X (.builtin "all") (cF X.K uAll) := by
  intro pins s σ H xs us Q I r h
  obtain ⟨ws, G, Q0, rw', hg, h, k⟩ := h
  obtain ⟨a, ns, rfl, h1, h⟩ := blL_of hg rw' h
  exact cr_all hc pins s σ H _ us Q I r ⟨a, ns, rfl, SqL.of h1, k _ G _ H h (.bl _) hg .refl⟩
def uAny : UFn := fun us G Q => uBlL us G fun bs => Q (.bl (bs.any id)) G
theorem call_uAny (hc : X.calm = true) : CallR X (.builtin "any") (cF X.K uAny) := by
  intro pins s σ H xs us Q I r h
  obtain ⟨ws, G, Q0, rw', hg, h, k⟩ := h
  obtain ⟨a, ns, rfl, h1, h⟩ := blL_of hg rw' h
  exact cr_any hc pins s σ H _ us Q I r ⟨a, ns, rfl, SqL.of h1, k _ G _ H h (.bl _) hg .refl⟩
def uDivmod : UFn := fun us G Q => match us with
  | [.int i, .int j] => CDiv i j ∧ Q (.tup [.int (i / j), .int (i % j)]) G
  | _ => False
theorem call_uDivmod : CallR X (.builtin "divmod") (cF X.K uDivmod) := by
  intro pins s σ H xs us Q I r h
  obtain ⟨ws, G, Q0, rw', hg, h, k⟩ := h
  unfold uDivmod at h
  split at h
  · rename_i i j
    obtain ⟨x, y, rfl, q1, q2⟩ := rus2 rw'
    cases q1; cases q2
    refine call_divmod pins s σ H _ us Q I r ⟨_, _, rfl, h.1, fun p hp => ?_⟩
    obtain ⟨e, g, q⟩ := hg.newTup hp (ws := [.int (i / j), .int (i % j)]) (.cons (.int _) (.cons (.int _) .nil))
    exact k _ G _ _ h.2 q g e
  · exact h.elim
/-- the name, whether it is a type, its id -/
def Blt.nm : Blt → Str
  | .len => "len"
  | .abs => "abs"
  | .max2 => "max"
  | .min2 => "min"
  | .int => "int"
  | .str => "str"
  | .ord => "ord"
  | .sum => "sum"
  | .sorted => "sorted"
  | .tuple => "tuple"
  | .list => "list"
  | .all => "all"
  | .any => "any"
  | .maxL => "max"
  | .minL => "min"
  | .divmod => "divmod"
  | .isi => "isinstance"
def Blt.val : Blt → Value
  | .len => .builtin "len"
  | .abs => .builtin "abs"
  | .max2 => .builtin "max"
  | .min2 => .builtin "min"
  | .int => .type "int"
  | .str => .type "str"
  | .ord => .builtin "ord"
  | .sum => .builtin "sum"
  | .sorted => .builtin "sorted"
  | .tuple => .type "tuple"
  | .list => .type "list"
  | .all => .builtin "all"
  | .any => .builtin "any"
  | .maxL => .builtin "max"
  | .minL => .builtin "min"
  | .divmod => .builtin "divmod"
  | .isi => .builtin "isinstance"
def Blt.fn : Blt → UFn
  | .len => uLen
  | .abs => uAbs
  | .max2 => uMax2
  | .min2 => uMin2
  | .int => uInt
  | .str => uStr
  | .ord => uOrd
  | .sum => uSum
  | .sorted => uSorted
  | .tuple => uTuple
  | .list => uList
  | .all => uAll
  | .any => uAny
  | .maxL => uMaxL
  | .minL => uMinL
  | .divmod => uDivmod
  | .isi => uIsi
theorem Blt.ok (hc : X.calm = true) (b : Blt) : CallR X b.val (cF X.K b.fn) := by
  cases b with
  | len => exact call_uLen
  | abs => exact call_uAbs
  | max2 => exact call_uMax2 hc
  | min2 => exact call_uMin2 hc
  | int => exact call_uInt
  | str => exact call_uStr
  | ord => exact call_uOrd
  | sum => exact call_uSum hc
  | sorted => exact call_uSorted
  | tuple => exact call_uTuple
  | list => exact call_uList
  | all => exact call_uAll hc
  | any => exact call_uAny hc
  | maxL => exact call_uMaxL hc
  | minL => exact call_uMinL hc
  | divmod => exact call_uDivmod
  | isi => exact call_uIsi

/-! ### subscripts -/
def uIx : UOp := fun x y G Q => match x, y with
  | .tup us, .int i => (match atI us i with
    | some u => Q u G
    | none => False)
  | .rol us, .int i => (match atI us i with
    | some u => Q u G
    | none => False)
  | .str z, .int i => z.length ≤ sizeLine ∧ (match atI z.cps.toList i with
    | some c => Q (.str ⟨#[c]⟩) G
    | none => False)
  | .ref a, k => (match G a with
    | some (.lst us) => (match k with
      | .int i => (match atI us i with
        | some u => Q u G
        | none => False)
      | _ => False)
    | some (.dK kvs) => (match keyOf k with
      | some kk => (match lookK kvs kk with
        | some u => Q u G
        | none => False)
      | none => False)
    | _ => False)
  | _, _ => False
theorem atI_rel {K : PySem.W.Frag} {H : Hp} {us : List U} {vs : List V} (r : RUs K H us vs) {i : Int} {u : U} (h : atI us i = some u) : ∃ v, atI vs i = some v ∧ RU K H u v := by
  unfold atI at *
  rw [← r.length]
  cases e : ixN us.length i with
  | none => rw [e] at h; cases h
  | some j =>
    rw [e] at h
    exact r.get (i := j) h
theorem ix_dict (hu : X.A.units + 1 < cLine) : IxR X (fun x y H Q => ∃ a v, x = .ref a ∧ DGet H a y (some v) ∧ Q v H) := by
  intro value slice pins s σ H x y v u Q I rx ry h hs
  obtain ⟨a, z, rfl, g, q⟩ := h
  cases (show v = Value.ref a from rx)
  exact PyProof.Rows.tail_any (dict_typeIs I g) slot_dict_getitem.lookup (d_getItem hu I g ry fun w' s' I' r' => ⟨z, H, I', r', q⟩) hs
theorem ix_u (hu : X.A.units + 1 < cLine) : IxR X (c2 X.K uIx) := by
  intro value slice pins s σ H x y v u Q I rx ry h hs
  obtain ⟨a, b, G, Q0, ra, rb, hg, h, k⟩ := h
  unfold uIx at h
  split at h
  · split at h
    · rename_i e
      obtain ⟨p, xs, rfl, h1, r1⟩ := ra.tup_inv
      cases rb
      obtain ⟨vv, e2, r2⟩ := atI_rel r1 e
      exact ix_tup value slice pins s σ H _ _ v u Q I rx ry ⟨p, xs, _, vv, rfl, rfl, h1, e2, k _ G _ H h r2 hg .refl⟩ hs
    · exact h.elim
  · split at h
    · rename_i e
      obtain ⟨p, xs, rfl, h1, r1⟩ := ra.rol_inv
      cases rb
      obtain ⟨vv, e2, r2⟩ := atI_rel r1 e
      exact ix_list value slice pins s σ H _ _ v u Q I rx ry ⟨p, xs, _, vv, rfl, rfl, h1.sq, e2, k _ G _ H h r2 hg .refl⟩ hs
    · exact h.elim
  · obtain ⟨hz, h⟩ := h
    split at h
    · rename_i e
      cases ra; cases rb
      exact ix_str value slice pins s σ H _ _ v u Q I rx ry ⟨_, _, _, rfl, rfl, hz, e, k _ G _ H h (.str _) hg .refl⟩ hs
    · exact h.elim
  · cases ra with
    | ref =>
      split at h
      · rename_i us e
        split at h
        · split at h
          · rename_i e3
            obtain ⟨xs, h1, r1⟩ := hg.lst e
            cases rb
            obtain ⟨vv, e2, r2⟩ := atI_rel r1 e3
            exact ix_list value slice pins s σ H _ _ v u Q I rx ry ⟨_, xs, _, vv, rfl, rfl, SqL.of h1, e2, k _ G _ H h r2 hg .refl⟩ hs
          · exact h.elim
        · exact h.elim
      · rename_i kvs e
        split at h
        · rename_i key ek
          split at h
          · rename_i uu el
            obtain ⟨xs, h1, r1⟩ := hg _ _ e
            have hk := key_rel rb ek
            subst hk
            rcases lookK_rel r1 key with ⟨e1, e2⟩ | ⟨u3, v3, e1, e2, r3⟩
            · rw [el] at e1; cases e1
            · rw [el] at e1; cases e1
              exact ix_dict hu value slice pins s σ H _ _ v u Q I rx ry ⟨_, v3, rfl, by rw [← e2]; exact DGet.k h1, k _ G _ H h r3 hg .refl⟩ hs
          · exact h.elim
        · exact h.elim
      · exact h.elim
  · exact h.elim
/-! ### slices -/
def cutU (xs : List U) (lo hi : Option Int) : List U := (xs.drop (HT.sIx xs.length 0 lo)).take (HT.sIx xs.length xs.length hi - HT.sIx xs.length 0 lo)
theorem cut_rel {K : PySem.W.Frag} {H : Hp} {us : List U} {vs : List V} (r : RUs K H us vs) (lo hi : Option Int) : RUs K H (cutU us lo hi) (cutV vs lo hi) := by
  unfold cutU cutV
  rw [r.length]
  exact RUs.take _ (RUs.drop _ r)
def uSl (x : U) (lo hi : Option Int) : UH → UK → Prop := fun G Q => match x with
  | .tup us => Q (.tup (cutU us lo hi)) G
  | .rol us => ∀ p, G p = none → Q (.ref p) (up G p (.lst (cutU us lo hi)))
  | .str z => z.length ≤ sizeLine ∧ Q (.str (cutS z lo hi)) G
  | .ref a => (match G a with
    | some (.lst us) => ∀ p, G p = none → Q (.ref p) (up G p (.lst (cutU us lo hi)))
    | _ => False)
  | _ => False
def cSl (K : PySem.W.Frag) : V → Option Int → Option Int → Hp → VK → Prop := fun x lo hi H Q => ∃ u G Q0, RU K H u x ∧ HR K G H ∧ uSl u lo hi G Q0 ∧ ∀ z G' v H', Q0 z G' → RU K H' z v → HR K G' H' → Ext H H' → Q v H'
theorem cutU_all {us : List U} {lo hi : Option Int} (h : HT.sIx us.length 0 lo = 0 ∧ HT.sIx us.length us.length hi = us.length) : cutU us lo hi = us := by
  unfold cutU
  rw [h.1, h.2]
  simp
theorem sl_u : SlR X (cSl X.K) := by
  intro pins s σ H x v vl vu lo hi sl Q I rx hs pl pu h
  obtain ⟨a, G, Q0, ra, hg, h, k⟩ := h
  unfold uSl at h
  split at h
  · obtain ⟨p, xs, rfl, h1, r1⟩ := ra.tup_inv
    refine sl_tupA pins s σ H _ v vl vu lo hi sl Q I rx hs pl pu ⟨p, xs, rfl, h1, fun e => ?_, fun _ l hl => ?_⟩
    · rw [← r1.length] at e
      rw [cutU_all e] at h
      exact k _ G _ H h ra hg .refl
    · obtain ⟨e, g, q⟩ := hg.newTup hl (cut_rel r1 lo hi)
      exact k _ G _ _ h q g e
  · obtain ⟨p, xs, rfl, h1, r1⟩ := ra.rol_inv
    refine sl_list pins s σ H _ v vl vu lo hi sl Q I rx hs pl pu ⟨p, xs, rfl, h1.sq, fun l hl => ?_⟩
    obtain ⟨e, g⟩ := hg.newLst hl (cut_rel r1 lo hi)
    exact k _ _ _ _ (h l (hg.fresh hl)) (.ref l) g e
  · cases ra
    exact sl_str pins s σ H _ v vl vu lo hi sl Q I rx hs pl pu ⟨_, rfl, h.1, k _ G _ H h.2 (.str _) hg .refl⟩
  · cases ra
    split at h
    · rename_i e
      obtain ⟨xs, h1, r1⟩ := hg.lst e
      refine sl_list pins s σ H _ v vl vu lo hi sl Q I rx hs pl pu ⟨_, xs, rfl, SqL.of h1, fun l hl => ?_⟩
      obtain ⟨e, g⟩ := hg.newLst hl (cut_rel r1 lo hi)
      exact k _ _ _ _ (h l (hg.fresh hl)) (.ref l) g e
    · exact h.elim
  · exact h.elim
end
end UL
set_option Elab.async false
set_option linter.all false
set_option autoImplicit false
set_option maxRecDepth 100000
set_option maxHeartbeats 4000000
/-! UL5: enumerate and zip over lists and tuples in any mix. -/
namespace UL
open PySem PySem.Spec L2
/-- a list (false) or a tuple (true) that is read -/
def SqK (K : PySem.W.Frag) (H : Hp) : Bool → Addr → List V → Prop
  | false => SqL K H
  | true => SqT K H
def ItK (h : Heap) : Bool → Addr → Addr → Nat → Prop
  | false => fun it a i => h.IsListIter it a i
  | true => fun it a i => h.IsTupleIter it a i
def IsK (h : Heap) : Bool → Addr → Array Value → Prop
  | false => fun a its => h.IsList a its
  | true => fun a its => h.IsTuple a its
def itO : Bool → Addr → Obj
  | false => fun a => { cls := .type "list_iterator", data := .fields #[.ref a, .int 0 0] }
  | true => fun a => { cls := .type "tuple_iterator", data := .fields #[.ref a, .int 0 0] }
theorem beginsK (k : Bool) (a : Addr) (items : Array Value) : Begins (.ref a) (itO k a) fun h => IsK h k a items := by
  cases k with
  | false => exact begins_list a items
  | true => exact begins_tuple a items
theorem ItK.new {h : Heap} {k : Bool} {it a : Addr} (e : h.get? it = some (itO k a)) : ItK h k it a 0 := by
  cases k with
  | false => exact ⟨_, e, rfl, rfl⟩
  | true => exact ⟨_, e, rfl, rfl⟩
theorem ItK.at {h h' : Heap} {k : Bool} {it a : Addr} {i : Nat} (st : ItK h k it a i) (f : ∀ o, h.get? it = some o → h'.get? it = some o) : ItK h' k it a i := by
  cases k with
  | false => exact Heap.IsListIter.at st f
  | true => exact Heap.IsTupleIter.at st f
theorem ItK.obj {h : Heap} {k : Bool} {it a : Addr} {i : Nat} (st : ItK h k it a i) : ∃ o, h.get? it = some o ∧ ∀ v, o.data ≠ .cell v := by
  cases k with
  | false =>
    obtain ⟨o, e, _, d⟩ := st
    exact ⟨o, e, fun v z => by rw [d] at z; cases z⟩
  | true =>
    obtain ⟨o, e, _, d⟩ := st
    exact ⟨o, e, fun v z => by rw [d] at z; cases z⟩
theorem drawsK {prog : Program} {w : World} {A : Around} (k : Bool) (hh : A.handled = none) (it l : Addr) (hne : l ≠ it) (items : Array Value) :
    Draws prog w A it [it, l] items.size (fun i v => items[i]? = some v) (fun i h => ItK h k it l i ∧ IsK h k l items) := by
  cases k with
  | false => exact Draws.list hh it l hne items
  | true => exact Draws.tuple hh it l hne items
section
variable {X : Cx} {pins : List (Addr × Obj)} {σ : L2.St} {H : Hp} {s : Shared}
theorem Inv.sqk (I : Inv X pins σ H s) {k : Bool} {a : Addr} {xs : List V} (h : SqK X.K H k a xs) : ∃ its : List Value, Vals xs its ∧ IsK s.heap k a its.toArray ∧ (∃ o, s.heap.get? a = some o ∧ ∀ vs, o.data ≠ .fields vs) := by
  cases k with
  | false =>
    obtain ⟨its, r, p, _⟩ := I.list h
    obtain ⟨o, n, e, _, _, d⟩ := id p
    exact ⟨its, r, p.isList, o, e, fun vs z => by rw [d] at z; cases z⟩
  | true =>
    obtain ⟨its, r, p, _⟩ := I.tuple h
    obtain ⟨o, e, _, n, d⟩ := id p
    exact ⟨its, r, p, o, e, fun vs z => by rw [d] at z; cases z⟩
theorem Inv.sqk_inj (I : Inv X pins σ H s) {k : Bool} {a : Addr} {xs ys : List V} (h : SqK X.K H k a xs) (h' : SqK X.K H k a ys) : xs = ys := by
  cases k with
  | false => exact I.list_inj h h'
  | true => exact I.tuple_inj h h'
/-- an iterator is not what it walks -/
theorem ItK.ne {h : Heap} {k : Bool} {it a : Addr} {i : Nat} (st : ItK h k it a i) (o : Obj) (e : h.get? a = some o) (d : ∀ vs, o.data ≠ .fields vs) : a ≠ it := by
  intro z
  subst z
  cases k with
  | false =>
    obtain ⟨o', e', _, d'⟩ := st
    rw [e] at e'; cases e'
    exact d _ d'
  | true =>
    obtain ⟨o', e', _, d'⟩ := st
    rw [e] at e'; cases e'
    exact d _ d'
end

/-! ### zip -/
def ItzK (K : PySem.W.Frag) (k1 k2 : Bool) (a b : Addr) : It :=
  ⟨fun i H => ∃ (xs ys : List V) (x y : V), SqK K H k1 a xs ∧ SqK K H k2 b ys ∧ xs[i]? = some x ∧ ys[i]? = some y,
    fun i H v H' => ∃ T x y, v = .ref T ∧ H T = none ∧ H' = upd H T (.tup [x, y]) ∧ (∀ xs, SqK K H k1 a xs → xs[i]? = some x) ∧ ∀ ys, SqK K H k2 b ys → ys[i]? = some y,
    fun i H => ∃ xs ys : List V, SqK K H k1 a xs ∧ SqK K H k2 b ys ∧ i ≤ xs.length ∧ i ≤ ys.length ∧ (xs.length = i ∨ ys.length = i)⟩
theorem turn_zipK {P : Program} {w : World} {K : PySem.W.Frag} {elts : List Expr} {kk : Nat} {tpos : Pos} {k1 k2 : Bool} {a b z TI TO i1 i2 : Addr} (D : ZipSep2 z TI TO i1 i2 [i1, a] [i2, b]) :
    Turn P w K (.Tuple elts kk tpos) (ItzK K k1 k2 a b) [z, TI, TO, i1, i2] z (fun i h => IsZip h z TI TO .none ∧ IsTupOf2 h TI (.ref i1) (.ref i2) ∧ (∃ x y, IsTupOf2 h TO x y) ∧ ItK h k1 i1 a i ∧ ItK h k2 i2 b i) where
  mem := by simp
  obj := fun i h st c hc => by
    obtain ⟨hz, hTI, ⟨x, y, hTO⟩, h1, h2⟩ := st
    have e' : c = z ∨ c = TI ∨ c = TO ∨ c = i1 ∨ c = i2 := by simpa using hc
    rcases e' with q | q | q | q | q
    · rw [q]; exact ⟨_, hz, fun v q => nomatch q⟩
    · rw [q]; exact ⟨_, hTI, fun v q => nomatch q⟩
    · rw [q]; exact ⟨_, hTO, fun v q => nomatch q⟩
    · rw [q]; exact h1.obj
    · rw [q]; exact h2.obj
  keep := fun i h h' st k => by
    obtain ⟨hz, hTI, ⟨x, y, hTO⟩, h1, h2⟩ := st
    exact ⟨k z (by simp) _ hz, k TI (by simp) _ hTI, ⟨x, y, k TO (by simp) _ hTO⟩, h1.at fun o q => k i1 (by simp) o q, h2.at fun o q => k i2 (by simp) o q⟩
  item := by
    intro X hP hw hK hc i pins s σ H E I hf st hg
    subst hP hw hK
    obtain ⟨hz, hTI, ⟨x0, y0, hTO⟩, h1, h2⟩ := st
    obtain ⟨xs, ys, x, y, hqx, hqy, hx, hy⟩ := hg
    obtain ⟨its, rv, p, o1, e1, d1⟩ := UL.Inv.sqk I hqx
    obtain ⟨its2, rv2, p2, o2, e2, d2⟩ := UL.Inv.sqk I hqy
    obtain ⟨u, hu, ru⟩ := rv.get hx
    obtain ⟨u2, hu2, ru2⟩ := rv2.get hy
    have hzl : z < s.heap.objs.size := Heap.lt_size hz
    have hh : X.A.in1.handled = none := I.ok.hd hc
    refine wpAny_pyNext_zipD2_item (i := i) D (drawsK k1 hh i1 a (h1.ne o1 e1 d1) its.toArray) (drawsK k2 hh i2 b (h2.ne o2 e2 d2) its2.toArray) hz hTI hTO ⟨h1, p⟩ ⟨h2, p2⟩
      (by have := (List.getElem?_eq_some_iff.mp hu).1; simpa using this) (by have := (List.getElem?_eq_some_iff.mp hu2).1; simpa using this) fun x1 x2 h' tk y1 y2 z' TO' st1 st2 hT hsz hk => ?_
    have ex1 : x1 = u := by
      have q : its.toArray[i]? = some u := by simpa using hu
      rw [q] at y1; exact (Option.some.inj y1).symm
    have ex2 : x2 = u2 := by
      have q : its2.toArray[i]? = some u2 := by simpa using hu2
      rw [q] at y2; exact (Option.some.inj y2).symm
    subst ex1; subst ex2
    refine ⟨_, rfl, wpAny_letOwnedTupleGo_zip (s := { s with heap := h', toks := tk }) z' fun h'' z'' sb => ?_⟩
    have hT2 : h''.get? s.heap.objs.size = some { cls := .type "tuple", data := .seq #[x1, x2] } := (sb.2 _ (Nat.ne_of_gt hzl)).trans hT
    have new : ObjOk X.prog X.w (upd H s.heap.objs.size (.tup [x, y])) h'' s.heap.objs.size (.tup [x, y]) :=
      ⟨by show 2 ≤ sizeLine; decide, [x1, x2], .cons ru (.cons ru2 .nil), ⟨_, hT2, rfl, _, rfl⟩⟩
    have I1 : Inv X pins σ (upd H s.heap.objs.size (.tup [x, y])) { s with heap := h'', toks := tk } :=
      I.turnedNew (t' := tk) (ch := [z, TI, TO, i1, i2]) (fun c o hb q => (sb.2 c (fun q' => hb (by simp [q']))).trans (hk c o (fun q' => hb (by simp [q'])) (fun q' => hb (by simp [q'])) (fun q' => hb (by simp [q'])) (fun q' => hb (by simp [q'])) q)) hf (Nat.le_refl _) new
    refine ⟨.ref s.heap.objs.size, _, I1, rfl, ⟨_, x, y, rfl, I.hok.fresh (Nat.le_refl _), rfl, fun l hl => by rw [UL.Inv.sqk_inj I hl hqx]; exact hx, fun l hl => by rw [UL.Inv.sqk_inj I hl hqy]; exact hy⟩, ⟨z'', ?_, ⟨x1, x2, ?_⟩, ?_, ?_⟩, fun c hcm => ?_⟩
    · exact (sb.2 _ D.TIz).trans (hk _ _ D.TIz D.TITO D.TIi1 D.TIi2 hTI)
    · exact (sb.2 _ D.TOz).trans TO'
    · exact st1.1.at fun o q => (sb.2 _ D.zi1.symm).trans q
    · exact st2.1.at fun o q => (sb.2 _ D.zi2.symm).trans q
    · have hlt : c < s.heap.objs.size := by
        have e' : c = z ∨ c = TI ∨ c = TO ∨ c = i1 ∨ c = i2 := by simpa using hcm
        rcases e' with q | q | q | q | q
        · rw [q]; exact hzl
        · rw [q]; exact Heap.lt_size hTI
        · rw [q]; exact Heap.lt_size hTO
        · rw [q]; obtain ⟨_, e1, _⟩ := h1.obj; exact Heap.lt_size e1
        · rw [q]; obtain ⟨_, e2, _⟩ := h2.obj; exact Heap.lt_size e2
      rw [upd_ne (Nat.ne_of_lt hlt)]
      exact (hf c hcm).1
  done := by
    intro X hP hw hK hc i pins s σ H E I hf st hg
    subst hP hw hK
    obtain ⟨hz, hTI, ⟨x0, y0, hTO⟩, h1, h2⟩ := st
    obtain ⟨xs, ys, hqx, hqy, l1, l2, hend⟩ := hg
    obtain ⟨its, rv, p, o1, e1, d1⟩ := UL.Inv.sqk I hqx
    obtain ⟨its2, rv2, p2, o2, e2, d2⟩ := UL.Inv.sqk I hqy
    have hh : X.A.in1.handled = none := I.ok.hd hc
    have m1 := rv.length
    have m2 := rv2.length
    exact wpAny_pyNext_zipD2_end (i := i) D (drawsK k1 hh i1 a (h1.ne o1 e1 d1) its.toArray) (drawsK k2 hh i2 b (h2.ne o2 e2 d2) its2.toArray) hz hTI hTO ⟨h1, p⟩ ⟨h2, p2⟩ (by simp; omega) (by simp; omega)
      (by rcases hend with q | q; exact .inl (by simp; omega); exact .inr (by simp; omega)) fun h' tk hk => ⟨rfl, I.turnedL (t' := tk) (ch := [z, TI, TO, i1, i2]) (fun c o hb q =>
      hk c o (fun q' => hb (by simp [q'])) (fun q' => hb (by simp [q'])) (fun q' => hb (by simp [q'])) (fun q' => hb (by simp [q'])) q) hf⟩
  self := fun A i s Q E st h => wpAny_pyIter_zip st.1 h
def iZipK (K : PySem.W.Frag) (ta : TA) : TI := fun σ H R => ta σ H fun vs H1 => ∃ k1 k2 a b xs ys, vs = [.ref a, .ref b] ∧ SqK K H1 k1 a xs ∧ SqK K H1 k2 b ys ∧ R (ItzK K k1 k2 a b) H1
theorem pi_zipK {X : Cx} {e e2 : Expr} {ta : TA} {p pos tpos : Pos} {elts : List Expr} {kk : Nat} (hg : Gl X "zip") (hm : X.mg "zip" = none) (ha : PA X [e, e2] ta)
    (hs : starEach [e, e2] X.env = (false, eval e X.env) :: starEach [e2] X.env) (hpl : (backTo pos (starEach [e2] X.env)).any (·.1) = false) :
    PI X (.Tuple elts kk tpos) (.Call (.Name "zip" p) [e, e2] [] pos) (iZipK X.K ta) := by
  refine ⟨fun pins s σ H R I h => ?_⟩
  refine PyProof.Rows.Call_ (ld_blt I hg hm PyProof.Rows.boot_zip (PyProof.Rows.callWith_type1 (thn (ha.run pos pins s σ H _ I h) fun us s1 ⟨vs, H1, I1, r1, q1⟩ => ?_) hs hpl))
  obtain ⟨k1, k2, a, b, xs, ys, ex, hqx, hqy, q⟩ := q1
  subst ex
  cases r1 with
  | cons r rr =>
    cases rr with
    | cons r' rr =>
      cases rr
      cases r
      cases r'
      obtain ⟨its, rv, p1, o1, e1, _⟩ := UL.Inv.sqk I1 hqx
      obtain ⟨its2, rv2, p2, o2, e2, _⟩ := UL.Inv.sqk I1 hqy
      have la : a < s1.heap.objs.size := Heap.lt_size e1
      have lb : b < s1.heap.objs.size := Heap.lt_size e2
      have sep : ZipSep2 (s1.heap.objs.size + 4) (s1.heap.objs.size + 2) (s1.heap.objs.size + 3) s1.heap.objs.size (s1.heap.objs.size + 1) [s1.heap.objs.size, a] [s1.heap.objs.size + 1, b] :=
        zip_sep2 (N := s1.heap.objs.size) (fp1 := [a]) (fp2 := [b]) (fun c hc => by
          have e : c = a := by simpa using hc
          rw [e]; exact la) (fun c hc => by
          have e : c = b := by simpa using hc
          rw [e]; exact lb)
      refine zip_begins2 (beginsK k1 a its.toArray) (beginsK k2 b its2.toArray) p1 p2 fun h' hz hTI hTO h1 h2 hsz hk => wpAny_pyIter_zip hz ?_
      have I2 : Inv X pins σ H1 { s1 with heap := h' } := I1.kept (t' := s1.toks) hk
      refine ⟨s1.heap.objs.size + 4, [s1.heap.objs.size + 4, s1.heap.objs.size + 2, s1.heap.objs.size + 3, s1.heap.objs.size, s1.heap.objs.size + 1], _, _, H1, rfl, I2,
        turn_zipK sep, ⟨hz, hTI, ⟨_, _, hTO⟩, ItK.new h1, ItK.new h2⟩, fun c hcm => ?_, q⟩
      have e' : c = s1.heap.objs.size + 4 ∨ c = s1.heap.objs.size + 2 ∨ c = s1.heap.objs.size + 3 ∨ c = s1.heap.objs.size ∨ c = s1.heap.objs.size + 1 := by simpa using hcm
      have hle : s1.heap.objs.size ≤ c := by
        rcases e' with z | z | z | z | z
        · rw [z]; exact Nat.le_add_right _ _
        · rw [z]; exact Nat.le_add_right _ _
        · rw [z]; exact Nat.le_add_right _ _
        · rw [z]; exact Nat.le_refl _
        · rw [z]; exact Nat.le_add_right _ _
      exact I1.fpOk hle (I1.hok.fresh hle)

/-! ### enumerate -/
theorem meets_enum_newB {v : Value} {o : Obj} {H : Heap → Prop} (B : Begins v o H) :
    Meets (Builtin.«enumerate.__new__» ⟨[.type "enumerate", v], []⟩) (fun _ R s => H s.heap ∧
      R (.ok (.ret (.ref (s.heap.push o).objs.size)))
        { s with heap := (s.heap.push o).push { cls := .type "enumerate", data := .fields #[.none, .bool false, .ref s.heap.objs.size, rawInt 0, .none, .none] } }) :=
  .of_wp fun prog w A R s h => by
    obtain ⟨hp, g, d, tk, os⟩ := s; obtain ⟨hl, h⟩ := h
    have hsub := sub_enumerate
    have hf := B.free
    wp_walk using B.iter prog w _ _ _ _ hl
    refine wpAny_stack_any fun st => wpAny_pure ?_
    split
    · rename_i c _ _ _ _ _
      cases (c == Value.type "enumerate")
      · wp_walk using B.iter prog w _ _ _ _ hl
        exact ⟨_, rfl, h⟩
      · wp_walk using B.iter prog w _ _ _ _ hl
        exact ⟨_, rfl, h⟩
    · wp_walk using B.iter prog w _ _ _ _ hl
      exact ⟨_, rfl, h⟩
theorem call_enumK {prog : Program} {w : World} {A : Around} {E : Value → Shared → Prop} {s : Shared} {v : Value} {o : Obj} {H : Heap → Prop} {Q : Value → Shared → Prop} (B : Begins v o H) (h1 : H s.heap)
    (h : ∀ h', IsEnum h' (s.heap.objs.size + 1) s.heap.objs.size 0 .none → h'.get? s.heap.objs.size = some o → h'.objs.size = s.heap.objs.size + 2 →
      (∀ b o, s.heap.get? b = some o → h'.get? b = some o) → Q (.ref (s.heap.objs.size + 1)) { s with heap := h' }) :
    wpAny (model prog w) A (call (.type "enumerate") [v]) Q E s := by
  refine callType_new F.called_enumerate (by decide) (F.typeCall_enumerate_1 _) (F.newCall_enumerate_1 _) (fun obj => F.args_object_init_2 obj _) F.entry_enumerate_new
    (meets_enum_newB B) ⟨h1, ?_⟩
  have hz : (s.heap.push o).objs.size = s.heap.objs.size + 1 := Heap.size_push ..
  show _ ∧ _
  rw [hz]
  have he : IsEnum ((s.heap.push o).push
      { cls := .type "enumerate", data := .fields #[.none, .bool false, .ref s.heap.objs.size, rawInt 0, .none, .none] }) (s.heap.objs.size + 1) s.heap.objs.size 0 .none := by
    have := Heap.get?_push_size (s.heap.push o)
      (o := { cls := .type "enumerate", data := .fields #[.none, .bool false, .ref s.heap.objs.size, rawInt 0, .none, .none] }) rfl
    rw [hz] at this; exact this
  refine ⟨⟨_, he, rfl⟩, h _ he (Heap.get?_push_of_some _ (Heap.get?_push_size _ B.free)) (by rw [Heap.size_push, hz]) fun b o x => Heap.get?_push_of_some _ (Heap.get?_push_of_some _ x)⟩
def IteK (K : PySem.W.Frag) (k1 : Bool) (a : Addr) : It :=
  ⟨fun i H => ∃ (xs : List V) (x : V), SqK K H k1 a xs ∧ xs[i]? = some x,
    fun i H v H' => ∃ T x, v = .ref T ∧ H T = none ∧ H' = upd H T (.tup [.int (i : Nat), x]) ∧ ∀ xs, SqK K H k1 a xs → xs[i]? = some x,
    fun i H => ∃ xs : List V, SqK K H k1 a xs ∧ xs.length = i⟩
theorem turn_enumK {P : Program} {w : World} {K : PySem.W.Frag} {elts : List Expr} {kk : Nat} {tpos : Pos} (k1 : Bool) (a e it : Addr) :
    Turn P w K (.Tuple elts kk tpos) (IteK K k1 a) [e, it] e (fun i h => (∃ old, IsEnum h e it ((i : Nat) : Int) old) ∧ ItK h k1 it a i ∧ e ≠ it) where
  mem := by simp
  obj := fun i h st b hb => by
    obtain ⟨⟨old, he⟩, hi, _⟩ := st
    have e' : b = e ∨ b = it := by simpa using hb
    rcases e' with z | z
    · rw [z]; exact ⟨_, he, fun v q => nomatch q⟩
    · rw [z]; exact hi.obj
  keep := fun i h h' st k => let ⟨⟨old, he⟩, hi, hne⟩ := st; ⟨⟨old, k e (by simp) _ he⟩, hi.at fun o q => k it (by simp) o q, hne⟩
  item := by
    intro X hP hw hK hc i pins s σ H E I hf st hg
    subst hP hw hK
    obtain ⟨⟨old, he⟩, hit, hne⟩ := st
    obtain ⟨xs, x, hq, hx⟩ := hg
    obtain ⟨its, rv, p, o1, e1, d1⟩ := UL.Inv.sqk I hq
    obtain ⟨u, hu, ru⟩ := rv.get hx
    have hel : e < s.heap.objs.size := Heap.lt_size he
    have hil : it < s.heap.objs.size := by obtain ⟨_, q, _⟩ := hit.obj; exact Heap.lt_size q
    have hea : e ≠ a := by
      intro z
      subst z
      rw [he] at e1; cases e1
      exact d1 _ rfl
    have hh : X.A.in1.handled = none := I.ok.hd hc
    refine wpAny_pyNext_enum_itemD (i := i) (drawsK k1 hh it a (hit.ne o1 e1 d1) its.toArray) he ⟨hit, p⟩ (by have := (List.getElem?_eq_some_iff.mp hu).1; simpa using this) hne (by simp [hne, hea]) fun x1 h' tk y1 ho st1 hT hsz hk => ?_
    have ex1 : x1 = u := by
      have q : its.toArray[i]? = some u := by simpa using hu
      rw [q] at y1; exact (Option.some.inj y1).symm
    subst ex1
    refine ⟨_, rfl, wpAny_letOwnedTupleGo_enum (s := { s with heap := h', toks := tk + 1 }) ho fun h'' he' sb => ?_⟩
    have hT2 : h''.get? s.heap.objs.size = some { cls := .type "tuple", data := .seq #[.int i tk, x1] } := (sb.2 _ (Nat.ne_of_gt hel)).trans hT
    have new : ObjOk X.prog X.w (upd H s.heap.objs.size (.tup [.int (i : Nat), x])) h'' s.heap.objs.size (.tup [.int (i : Nat), x]) :=
      ⟨by show 2 ≤ sizeLine; decide, [.int i tk, x1], .cons ⟨_, rfl⟩ (.cons ru .nil), ⟨_, hT2, rfl, _, rfl⟩⟩
    have I1 : Inv X pins σ (upd H s.heap.objs.size (.tup [.int (i : Nat), x])) { s with heap := h'', toks := tk + 1 } :=
      I.turnedNew (t' := tk + 1) (ch := [e, it]) (fun b ob hb q => (sb.2 b (fun z => hb (by simp [z]))).trans (hk b ob (fun z => hb (by simp [z])) (fun z => hb (by simp [z])) q)) hf (Nat.le_refl _) new
    refine ⟨.ref s.heap.objs.size, _, I1, rfl, ⟨_, x, rfl, I.hok.fresh (Nat.le_refl _), rfl, fun ys hy => by rw [UL.Inv.sqk_inj I hy hq]; exact hx⟩, ⟨⟨x1, ?_⟩, st1.1.at fun o q => (sb.2 it (Ne.symm hne)).trans q, hne⟩, fun b hb => ?_⟩
    · have e1 : ((i + 1 : Nat) : Int) = (i : Int) + 1 := by omega
      rw [e1]; exact he'
    · have hb' : b < s.heap.objs.size := by
        have e' : b = e ∨ b = it := by simpa using hb
        rcases e' with z | z
        · rw [z]; exact hel
        · rw [z]; exact hil
      rw [upd_ne (Nat.ne_of_lt hb')]
      exact (hf b hb).1
  done := by
    intro X hP hw hK hc i pins s σ H E I hf st hg
    subst hP hw hK
    obtain ⟨⟨old, he⟩, hit, hne⟩ := st
    obtain ⟨xs, hq, hx⟩ := hg
    obtain ⟨its, rv, p, o1, e1, d1⟩ := UL.Inv.sqk I hq
    obtain ⟨f0, f1, f2, f3, f4, f5⟩ := hf it (by simp)
    have hl := rv.length
    have hh : X.A.in1.handled = none := I.ok.hd hc
    have hi : i = its.toArray.size := by simp; omega
    subst hi
    exact wpAny_pyNext_enum_endD (drawsK k1 hh it a (hit.ne o1 e1 d1) its.toArray) he ⟨hit, p⟩ fun h' eb => ⟨rfl, I.turned (t' := s.toks) (fun b o hb q => eb b o hb q) f0 f1 f3 f4 f5⟩
  self := fun A i s Q E st h => let ⟨⟨_, he⟩, _⟩ := st; wpAny_pyIter_enum he h
def iEnumK (K : PySem.W.Frag) (ta : TA) : TI := fun σ H R => ta σ H fun vs H1 => ∃ k1 a xs, vs = [.ref a] ∧ SqK K H1 k1 a xs ∧ R (IteK K k1 a) H1
theorem pi_enumK {X : Cx} {e : Expr} {ta : TA} {p pos tpos : Pos} {elts : List Expr} {kk : Nat} (hg : Gl X "enumerate") (hm : X.mg "enumerate" = none) (ha : PA X [e] ta) (hs : starEach [e] X.env = [(false, eval e X.env)]) :
    PI X (.Tuple elts kk tpos) (.Call (.Name "enumerate" p) [e] [] pos) (iEnumK X.K ta) := by
  refine ⟨fun pins s σ H R I h => ?_⟩
  refine PyProof.Rows.Call_ (ld_blt I hg hm PyProof.Rows.boot_enumerate (PyProof.Rows.callWith_type1 (thn (ha.run pos pins s σ H _ I h) fun us s1 ⟨vs, H1, I1, r1, q1⟩ => ?_) hs rfl))
  obtain ⟨k1, a, xs, ex, hq, q⟩ := q1
  subst ex
  cases r1 with
  | cons r rr =>
    cases rr
    cases r
    obtain ⟨its, rv, p1, o1, e1, _⟩ := UL.Inv.sqk I1 hq
    refine call_enumK (beginsK k1 a its.toArray) p1 fun h' he hit hsz hk => wpAny_pyIter_enum he ?_
    have I2 : Inv X pins σ H1 { s1 with heap := h' } := I1.kept (t' := s1.toks) hk
    refine ⟨s1.heap.objs.size + 1, [s1.heap.objs.size + 1, s1.heap.objs.size], _, _, H1, rfl, I2, turn_enumK k1 a (s1.heap.objs.size + 1) s1.heap.objs.size, ⟨⟨.none, he⟩, ItK.new hit, Nat.succ_ne_self _⟩, fun b hb => ?_, q⟩
    have e' : b = s1.heap.objs.size + 1 ∨ b = s1.heap.objs.size := by simpa using hb
    have hle : s1.heap.objs.size ≤ b := by
      rcases e' with z | z
      · rw [z]; exact Nat.le_add_right _ _
      · rw [z]; exact Nat.le_refl _
    exact I1.fpOk hle (I1.hok.fresh hle)
end UL
set_option Elab.async false
set_option linter.all false
set_option autoImplicit false
set_option maxRecDepth 100000
set_option maxHeartbeats 4000000
/-! UL6: methods; trees of one's own, what they ask, how they fit the text: expressions. -/
namespace UL
open PySem PySem.Spec L2

/-! ### methods of built-in types -/
inductive Mth where
  | append | pop | popAt | extend | insert | split | join | lindex
  deriving DecidableEq
def Mth.T : Mth → String
  | .split => "str"
  | .join => "str"
  | _ => "list"
def Mth.nm : Mth → Str
  | .append => "append"
  | .pop => "pop"
  | .popAt => "pop"
  | .extend => "extend"
  | .insert => "insert"
  | .split => "split"
  | .join => "join"
  | .lindex => "index"
def Mth.id : Mth → String
  | .append => "list.append"
  | .pop => "list.pop"
  | .popAt => "list.pop"
  | .extend => "list.extend"
  | .insert => "list.insert"
  | .split => "str.split"
  | .join => "str.join"
  | .lindex => "list.index"
def uL (u : U) (G : UH) (k : Addr → List U → Prop) : Prop := match u with
  | .ref a => (match G a with
    | some (.lst us) => k a us
    | _ => False)
  | _ => False
theorem uL_of {K : PySem.W.Frag} {H : Hp} {G : UH} (hg : HR K G H) {u : U} {v : V} (r : RU K H u v) {k : Addr → List U → Prop} (h : uL u G k) :
    ∃ a us xs, v = .ref a ∧ u = .ref a ∧ G a = some (.lst us) ∧ H a = some (.lst xs) ∧ RUs K H us xs ∧ k a us := by
  unfold uL at h
  split at h
  · cases r
    split at h
    · rename_i e
      obtain ⟨xs, h1, r1⟩ := hg.lst e
      exact ⟨_, _, xs, rfl, rfl, e, h1, r1, h⟩
    · exact h.elim
  · exact h.elim
def Mth.fn : Mth → U → UFn
  | .append => fun x us G Q => uL x G fun a xs => match us with
    | [y] => xs.length < sizeLine ∧ Q .non (up G a (.lst (xs ++ [y])))
    | _ => False
  | .pop => fun x us G Q => uL x G fun a xs => match us with
    | [] => (match xs[xs.length - 1]? with
      | some y => Q y (up G a (.lst xs.dropLast))
      | none => False)
    | _ => False
  | .popAt => fun x us G Q => uL x G fun a xs => match us with
    | [.int i] => -(2 ^ 63) ≤ i ∧ i < 2 ^ 63 ∧ (match ixN xs.length i with
      | some k => (match xs[k]? with
        | some y => Q y (up G a (.lst (xs.eraseIdx k)))
        | none => False)
      | none => False)
    | _ => False
  | .extend => fun x us G Q => uL x G fun a xs => match us with
    | [y] => uL y G fun _ zs => xs.length + zs.length ≤ sizeLine ∧ Q .non (up G a (.lst (xs ++ zs)))
    | _ => False
  | .insert => fun x us G Q => uL x G fun a xs => match us with
    | [.int i, y] => xs.length < sizeLine ∧ 0 ≤ i ∧ i < 2 ^ 63 ∧ Q .non (up G a (.lst (xs.take i.toNat ++ [y] ++ xs.drop i.toNat)))
    | _ => False
  | .split => fun x us G Q => match x, us with
    | .str a, [.str b] => (b.length == 0) = false ∧ a.length + 2 ≤ sizeLine ∧ ∀ p, G p = none → Q (.ref p) (up G p (.lst ((Txt.split a b).map U.str)))
    | _, _ => False
  | .join => fun x us G Q => match x, us with
    | .str a, [y] => uL y G fun _ zs => (match strsOf zs with
      | some ys => (ys.map (·.length)).sum + ys.length * a.length ≤ 16777216 ∧ Q (.str (Txt.join a ys)) G
      | none => False)
    | _, _ => False
  | .lindex => fun x us G Q => uL x G fun _ xs => match us with
    | [y] => flatU y = true ∧ xs.all flatU = true ∧ ∃ (j : Nat) (z : U), xs[j]? = some z ∧ eqU z y = true ∧ (∀ (m : Nat) (z' : U), m < j → xs[m]? = some z' → eqU z' y = false) ∧ Q (.int (j : Nat)) G
    | _ => False
def mTy (T : String) (u : U) (G : UH) : Prop := match u with
  | .str _ => T = "str"
  | .ref a => (match G a with
    | some (.lst _) => T = "list"
    | some (.dK _) => T = "dict"
    | _ => False)
  | _ => False
section
variable {X : Cx}
theorem mTy_of {H : Hp} {G : UH} (hg : HR X.K G H) {u : U} {v : V} {T : String} (r : RU X.K H u v) (h : mTy T u G) : tyV X.K T v H := by
  unfold mTy at h
  split at h
  · cases r; exact h
  · cases r
    split at h
    · rename_i e
      obtain ⟨xs, h1, _⟩ := hg.lst e
      exact .inl ⟨h, xs, SqL.of h1⟩
    · rename_i e
      obtain ⟨xs, h1, _⟩ := hg _ _ e
      exact .inr (.inr (.inl ⟨h, .inl ⟨xs, h1⟩⟩))
    · exact h.elim
  · exact h.elim
theorem rus0 {K : PySem.W.Frag} {H : Hp} {xs : List V} (r : RUs K H [] xs) : xs = [] := by cases r; rfl
theorem Mth.ok (m : Mth) : MtR X m.id (cM X.K m.fn) := by
  intro pins s σ H x xs v us Q I rx rs h
  obtain ⟨u, ws, G, Q0, ru, rw', hg, h, k⟩ := h
  cases m with
  | append =>
    obtain ⟨a, ls, ys, rfl, rfl, e, h1, r1, h⟩ := uL_of hg ru h
    split at h
    · obtain ⟨y, rfl, q⟩ := rus1 rw'
      obtain ⟨e2, g⟩ := hg.setLst e (r1.append (.cons q .nil))
      exact mt_append pins s σ H _ _ v us Q I rx rs ⟨a, ys, y, rfl, rfl, h1, by rw [← r1.length]; exact h.1, k _ _ _ _ h.2 .non g e2⟩
    · exact h.elim
  | pop =>
    obtain ⟨a, ls, ys, rfl, rfl, e, h1, r1, h⟩ := uL_of hg ru h
    split at h
    · cases rus0 rw'
      split at h
      · rename_i y hy
        obtain ⟨z, hz, q⟩ := r1.get hy
        obtain ⟨e2, g⟩ := hg.setLst e r1.dropLast
        exact mt_pop pins s σ H _ _ v us Q I rx rs ⟨a, ys, z, rfl, rfl, h1, by rw [← r1.length]; exact hz, k _ _ _ _ h (RU.ext e2 q) g e2⟩
      · exact h.elim
    · exact h.elim
  | popAt =>
    obtain ⟨a, ls, ys, rfl, rfl, e, h1, r1, h⟩ := uL_of hg ru h
    split at h
    · obtain ⟨y, rfl, q⟩ := rus1 rw'
      cases q
      obtain ⟨b1, b2, h⟩ := h
      split at h
      · rename_i kk hk
        split at h
        · rename_i y hy
          obtain ⟨z, hz, q⟩ := r1.get hy
          obtain ⟨e2, g⟩ := hg.setLst e (r1.eraseIdx kk)
          exact mt_popAt pins s σ H _ _ v us Q I rx rs ⟨a, ys, _, kk, z, rfl, rfl, h1, b1, b2, by rw [← r1.length]; exact (ixN_seq hk).1, hz, k _ _ _ _ h (RU.ext e2 q) g e2⟩
        · exact h.elim
      · exact h.elim
    · exact h.elim
  | extend =>
    obtain ⟨a, ls, ys, rfl, rfl, e, h1, r1, h⟩ := uL_of hg ru h
    split at h
    · obtain ⟨y, rfl, q⟩ := rus1 rw'
      obtain ⟨b, ls2, ys2, rfl, rfl, e', h1', r1', h⟩ := uL_of hg q h
      obtain ⟨e2, g⟩ := hg.setLst e (r1.append r1')
      exact mt_extend pins s σ H _ _ v us Q I rx rs ⟨a, b, ys, ys2, rfl, rfl, h1, h1', by rw [← r1.length, ← r1'.length]; exact h.1, k _ _ _ _ h.2 .non g e2⟩
    · exact h.elim
  | insert =>
    obtain ⟨a, ls, ys, rfl, rfl, e, h1, r1, h⟩ := uL_of hg ru h
    split at h
    · rename_i i yy _
      obtain ⟨y, z, rfl, q1, q2⟩ := rus2 rw'
      cases q1
      obtain ⟨b1, b2, b3, h⟩ := h
      obtain ⟨e2, g⟩ := hg.setLst e (((r1.take i.toNat).append (.cons q2 .nil)).append (r1.drop i.toNat))
      exact mt_insert pins s σ H _ _ v us Q I rx rs ⟨a, ys, i, z, rfl, rfl, h1, by rw [← r1.length]; exact b1, b2, b3, k _ _ _ _ h .non g e2⟩
    · exact h.elim
  | split =>
    simp only [Mth.fn] at h
    split at h
    · cases ru
      obtain ⟨y, rfl, q⟩ := rus1 rw'
      cases q
      refine mt_split pins s σ H _ _ v us Q I rx rs ⟨_, _, rfl, rfl, h.1, h.2.1, fun p hp => ?_⟩
      obtain ⟨e, g⟩ := hg.newLst hp (RUs.of_strs _)
      exact k _ _ _ _ (h.2.2 p (hg.fresh hp)) (.ref p) g e
    · exact h.elim
  | join =>
    simp only [Mth.fn] at h
    split at h
    · cases ru
      obtain ⟨y, rfl, q⟩ := rus1 rw'
      obtain ⟨b, ls2, ys2, rfl, rfl, e', h1', r1', h⟩ := uL_of hg q h
      split at h
      · rename_i ss hs
        have e3 := strsOf_eq hs
        subst e3
        have e4 := RUs.strs r1'
        subst e4
        exact mt_join pins s σ H _ _ v us Q I rx rs ⟨_, b, ss, rfl, rfl, .inl (SqL.of h1'), h.1, k _ _ _ _ h.2 (.str _) hg .refl⟩
      · exact h.elim
    · exact h.elim
  | lindex =>
    obtain ⟨a, ls, ys, rfl, rfl, e, h1, r1, h⟩ := uL_of hg ru h
    split at h
    · rename_i y0
      obtain ⟨y, rfl, q⟩ := rus1 rw'
      obtain ⟨f1, f2, j, z, hz, e1, hno, h⟩ := h
      obtain ⟨z', hz', qz⟩ := r1.get hz
      have fz : ∀ {w : U} {m : Nat}, ls[m]? = some w → flatU w = true := fun {w m} hw => List.all_eq_true.mp f2 w (List.mem_of_getElem? hw)
      refine mt_index pins s σ H _ _ v us Q I rx rs ⟨a, ys, y, j, z', rfl, rfl, SqL.of h1, flat_of q f1, flats_of r1 f2, hz', by rw [eqU_of' qz q (fz hz) f1]; exact e1, fun m w hm hw => ?_, k _ _ _ _ h (.int _) hg .refl⟩
      obtain ⟨w', hw', qw⟩ := r1.get' hw
      rw [eqU_of' qw q (fz hw') f1]
      exact hno m w' hm hw'
    · exact h.elim
theorem Mth.pa (m : Mth) : PlainAttrs m.T := by
  cases m <;> first | exact PySem.F.plainAttrs_list | exact PySem.F.plainAttrs_str
theorem Mth.slot (m : Mth) : Slot m.T m.nm m.id := by
  cases m with
  | append => exact PySem.F.slot_list_append
  | pop => exact PySem.F.slot_list_pop
  | popAt => exact PySem.F.slot_list_pop
  | extend => exact PySem.F.slot_list_extend
  | insert => exact PySem.F.slot_list_insert
  | split => exact PySem.F.slot_str_split
  | join => exact PySem.F.slot_str_join
  | lindex => exact PySem.F.slot_list_index
theorem Mth.hty (m : Mth) : typeOf (.builtin m.id) = pure (.type "method_descriptor") := by
  cases m with
  | append => exact PySem.F.type_list_append
  | pop => exact PySem.F.type_list_pop
  | popAt => exact PySem.F.type_list_pop
  | extend => exact PySem.F.type_list_extend
  | insert => exact PySem.F.type_list_insert
  | split => exact PySem.F.type_str_split
  | join => exact PySem.F.type_str_join
  | lindex => exact PySem.F.type_list_index
end
end UL
set_option Elab.async false
set_option linter.all false
set_option autoImplicit false
set_option maxRecDepth 100000
set_option maxHeartbeats 4000000
/-! UL7: trees of one's own for expressions: what they ask (tr), how they fit the text (chk), soundness. -/
namespace UL
open PySem PySem.Spec L2

mutual
inductive Tg
  | nm (i : Nat)
  | tup (ts : Tgs)
inductive Tgs
  | nil
  | cons (t : Tg) (ts : Tgs)
end
mutual
inductive Ex
  | var (i : Nat) | int (i : Int) | bl (b : Bool) | non | str (x : Str) | gl (i : Nat) | ty (n : String)
  | bin (op : Operator) (a b : Ex) | neg (a : Ex) | not (a : Ex)
  | cmp (op : CmpOp) (a b : Ex) | chain (o1 o2 : CmpOp) (a b c : Ex)
  | and (a b : Ex) | or (a b : Ex) | ife (c a b : Ex)
  | tup (es : Exs) | lst (es : Exs)
  | call (f : Nat) (es : Exs) | blt (b : Blt) (es : Exs) | mth (m : Mth) (o : Ex) (es : Exs)
  | ix (o i : Ex) | sl (o : Ex) (lo hi : Exo) | stp (o c : Ex)
  | lc (elt : Ex) (tg : Tg) (it : Ito) (c : Exo)
  | lc2 (elt : Ex) (tg : Tg) (it : Ito) (c : Exo) (tg1 : Tg) (it1 : Ito) (c1 : Exo)
inductive Exs
  | nil
  | cons (e : Ex) (es : Exs)
inductive Exo
  | no
  | yes (e : Ex)
inductive Ito
  | rng1 (a : Ex) | rng2 (a b : Ex) | rng3 (a b c : Ex) | val (e : Ex) | enum (e : Ex) | zip (a b : Ex)
end

/-! ### what is raised; a def's promise -/
abbrev UXn := Nat × List U
abbrev UW := UXn → USt → UH → Prop
abbrev USp := List U → UH → UK → (UXn → UH → Prop) → Prop
structure Tab where
  fns : List Str
  gls : List Str
  xcs : List (Str × List Str)
structure Gam where
  fn : Nat → USp
  gl : Nat → U
def XnR (K : PySem.W.Frag) (mg : Str → Option Value) (tb : Tab) (xn : UXn) (cls : Value) (d : Option Addr) (H : Hp) : Prop :=
  ∃ (x : Str) (fs : List Str) (C dx : Addr) (vs : List V), tb.xcs[xn.1]? = some (x, fs) ∧ mg x = some (.ref C) ∧ cls = .ref C ∧ d = some dx ∧ H dx = some (.xd (fs.zip vs)) ∧ fs.length = vs.length ∧ RUs K H xn.2 vs
def cW (K : PySem.W.Frag) (mg : Str → Option Value) (tb : Tab) (W : UW) : WX := fun cls d σ H => ∃ xn s G, SR K H s σ ∧ HR K G H ∧ XnR K mg tb xn cls d H ∧ W xn s G
def cSp (K : PySem.W.Frag) (mg : Str → Option Value) (tb : Tab) (sp : USp) : Sp := fun vs H Q E => ∃ us G Q0 E0, RUs K H us vs ∧ HR K G H ∧ sp us G Q0 E0 ∧
  (∀ u G' v H', Q0 u G' → RU K H' u v → HR K G' H' → Ext H H' → Q v H') ∧ ∀ xn G' cls d H', E0 xn G' → XnR K mg tb xn cls d H' → HR K G' H' → Ext H H' → E cls d H'
def bltNames : List Str := ["len", "abs", "max", "min", "int", "str", "ord", "sum", "sorted", "tuple", "list", "all", "any", "divmod", "isinstance", "range", "enumerate", "zip", "bool", "dict", "NoneType", "reversed", "set"]
def visB (sc : Scope) (x : Str) : Bool := decide (sc.names.lookup x = some .local) || decide (sc.names.lookup x = some .cell) || decide (sc.names.lookup x = some .free)
def locB (sc : Scope) (x : Str) : Bool := decide (sc.names.lookup x = some .local) || decide (sc.names.lookup x = some .cell)
def glB (sc : Scope) (x : Str) : Bool := decide (sc.names.lookup x = some .globalImplicit)
/-- the scope as the text has it, and as it runs -/
structure ScOk (X : Cx) (sc : Scope) : Prop where
  vis : ∀ x, visB sc x = true → Vis X.env.scope x
  loc : ∀ x, locB sc x = true → Loc X.env.scope x ∧ (X.fn x = true ∨ X.env.scope.names.lookup x = some .local)
  gl : ∀ x, glB sc x = true → Gl X x
  cf : ∀ x, (sc.names.lookup x = some .cell ∨ sc.names.lookup x = some .free) → (X.env.scope.names.lookup x = some .cell ∨ X.env.scope.names.lookup x = some .free)
structure FnAvail (X : Cx) (x : Str) (sp : Sp) : Prop where
  ex : ∃ (k : Nat) (f : Addr) (fd : FuncData) (ps : List Str), X.mg x = some (.ref f) ∧ PySem.W.keepIn X.K (.ref f) = true ∧ Room k X.A ∧ Binds X.K fd ps [] ∧ FnOk X.prog X.w X.K X.mg X.base (CX X.prog X.w) k f fd ps sp
  db : (x == ("__debug__" : Str)) = false
structure CtxOk (X : Cx) (sc : Scope) (tb : Tab) (Γ : Gam) : Prop where
  sco : ScOk X sc
  nd : X.N.Nodup
  calm : X.calm = true
  hu : X.A.units + 64 < cLine
  fns : ∀ i x, tb.fns[i]? = some x → FnAvail X x (cSp X.K X.mg tb (Γ.fn i))
  gls : ∀ i x, tb.gls[i]? = some x → ∃ w v, X.mg x = some w ∧ RelV v w ∧ (∀ H, RU X.K H (Γ.gl i) v) ∧ (x == ("__debug__" : Str)) = false
  blt : ∀ x ∈ bltNames, X.mg x = none

/-! ### what a tree asks -/
mutual
def trG : Tg → U → USt → UH → (USt → UH → Prop) → Prop
  | .nm i => fun u s G Q => Q (setS s i (some u)) G
  | .tup ts => fun u s G Q => match u with
    | .tup us => us.length = lenG ts ∧ trGs ts us s G Q
    | .ref a => (match G a with
      | some (.lst us) => us.length = lenG ts ∧ trGs ts us s G Q
      | _ => False)
    | _ => False
def trGs : Tgs → List U → USt → UH → (USt → UH → Prop) → Prop
  | .nil => fun us s G Q => us = [] ∧ Q s G
  | .cons t ts => fun us s G Q => match us with
    | u :: us => trG t u s G fun s1 G1 => trGs ts us s1 G1 Q
    | [] => False
def lenG : Tgs → Nat
  | .nil => 0
  | .cons _ ts => lenG ts + 1
end
def rangeU (lo c : Int) : Nat → List U
  | 0 => []
  | n + 1 => .int lo :: rangeU (lo + c) c n
def enumU (i : Nat) : List U → List U
  | [] => []
  | u :: us => .tup [.int (i : Int), u] :: enumU (i + 1) us
def zipU : List U → List U → List U
  | u :: us, w :: ws => .tup [u, w] :: zipU us ws
  | _, _ => []
abbrev Deps := List (Addr × List U)
def depsOk (G : UH) : Deps → Prop
  | [] => True
  | d :: ds => G d.1 = some (.lst d.2) ∧ depsOk G ds
def seqOf (u : U) (G : UH) (k : Deps → List U → Prop) : Prop := match u with
  | .tup us => k [] us
  | .rol us => k [] us
  | .ref a => (match G a with
    | some (.lst us) => k [(a, us)] us
    | _ => False)
  | _ => False
/-- the length of a range -/
def rlen (i j c : Int) : Nat := ((j - i + c - 1) / c).toNat
def small62 (i : Int) : Prop := -(2 ^ 60) ≤ i ∧ i < 2 ^ 60
/-- a comprehension's turns -/
def lcU (ds : Deps) (p : Addr) (g : U → (USt → UH → Prop) → UH → Prop) (tt : USt → UH → (Bool → UH → Prop) → Prop) (te : USt → UH → UK → Prop) (Q : UK) : List U → List U → UH → Prop
  | [], acc, G => depsOk G ds ∧ G p = some (.lst acc) ∧ Q (.ref p) G
  | y :: ys, acc, G => depsOk G ds ∧ G p = some (.lst acc) ∧ g y (fun s1 G1 => tt s1 G1 fun b G2 => if b = true then te s1 G2 fun u G3 => G3 p = some (.lst acc) ∧ acc.length < sizeLine ∧
      (∃ G4, Le G4 (up G3 p (.lst (acc ++ [u]))) ∧ lcU ds p g tt te Q ys (acc ++ [u]) G4) else ∃ G4, Le G4 G2 ∧ lcU ds p g tt te Q ys acc G4) G
/-- the turns of an inner loop: the list goes on -/
def lcK (ds : Deps) (p : Addr) (g : U → (USt → UH → Prop) → UH → Prop) (tt : USt → UH → (Bool → UH → Prop) → Prop) (te : USt → UH → UK → Prop) (K : List U → UH → Prop) : List U → List U → UH → Prop
  | [], acc, G => depsOk G ds ∧ G p = some (.lst acc) ∧ K acc G
  | y :: ys, acc, G => depsOk G ds ∧ G p = some (.lst acc) ∧ g y (fun s1 G1 => tt s1 G1 fun b G2 => if b = true then te s1 G2 fun u G3 => G3 p = some (.lst acc) ∧ acc.length < sizeLine ∧
      (∃ G4, Le G4 (up G3 p (.lst (acc ++ [u]))) ∧ lcK ds p g tt te K ys (acc ++ [u]) G4) else ∃ G4, Le G4 G2 ∧ lcK ds p g tt te K ys acc G4) G
def lc2U (ds : Deps) (p : Addr) (g : U → (USt → UH → Prop) → UH → Prop) (tt : USt → UH → (Bool → UH → Prop) → Prop) (inner : USt → UH → List U → (List U → UH → Prop) → Prop) (Q : UK) : List U → List U → UH → Prop
  | [], acc, G => depsOk G ds ∧ G p = some (.lst acc) ∧ Q (.ref p) G
  | y :: ys, acc, G => depsOk G ds ∧ G p = some (.lst acc) ∧ g y (fun s1 G1 => tt s1 G1 fun b G2 => if b = true then inner s1 G2 acc (fun acc' G3 => ∃ G4, Le G4 G3 ∧ lc2U ds p g tt inner Q ys acc' G4)
      else ∃ G4, Le G4 G2 ∧ lc2U ds p g tt inner Q ys acc G4) G
mutual
def slotsG : Tg → List Nat
  | .nm i => [i]
  | .tup ts => slotsGs ts
def slotsGs : Tgs → List Nat
  | .nil => []
  | .cons t ts => slotsG t ++ slotsGs ts
end
def wipeU (s : USt) : List Nat → USt
  | [] => s
  | v :: vs => setS (wipeU s vs) v none
/-- a value whose truth is asked when it is there -/
def pl (t : UT) : UT × UTT := (t, fun s G Q => t s G fun x G1 => uTru x G1 Q)
mutual
def trX (Γ : Gam) (W : UW) : Ex → UT × UTT
  | .var i => pl (uVar i)
  | .int i => pl (uC (.int i))
  | .bl b => pl (uC (.bl b))
  | .non => pl (uC .non)
  | .str x => pl (uC (.str x))
  | .gl i => pl (uC (Γ.gl i))
  | .ty n => pl (uC (.ty n))
  | .bin op a b => pl (uBin (uOp op) (trX Γ W a).1 (trX Γ W b).1)
  | .neg a => pl (uUn uNeg (trX Γ W a).1)
  | .not a => (fun s G Q => (trX Γ W a).1 s G fun x G1 => uTru x G1 fun b G2 => Q (.bl (!b)) G2, fun s G Q => (trX Γ W a).2 s G fun b G1 => Q (!b) G1)
  | .cmp op a b => (uBin (uCmp op) (trX Γ W a).1 (trX Γ W b).1, fun s G Q => (trX Γ W a).1 s G fun x G1 => (trX Γ W b).1 s G1 fun y G2 => uCmp op x y G2 fun z G3 => match z with
    | .bl k => Q k G3
    | _ => False)
  | .chain o1 o2 a b c => (fun s G Q => (trX Γ W a).1 s G fun x G1 => (trX Γ W b).1 s G1 fun y G2 => uCmp o1 x y G2 fun z G3 => match z with
    | .bl k => if k = true then (trX Γ W c).1 s G3 fun w G4 => uCmp o2 y w G4 Q else Q (.bl false) G3
    | _ => False, fun s G Q => (trX Γ W a).1 s G fun x G1 => (trX Γ W b).1 s G1 fun y G2 => uCmp o1 x y G2 fun z G3 => match z with
    | .bl k => if k = true then (trX Γ W c).1 s G3 fun w G4 => uCmp o2 y w G4 fun z2 G5 => (match z2 with
        | .bl k2 => Q k2 G5
        | _ => False) else Q false G3
    | _ => False)
  | .and a b => (fun s G Q => (trX Γ W a).1 s G fun x G1 => uTru x G1 fun k G2 => if k = true then (trX Γ W b).1 s G2 Q else Q x G2,
    fun s G Q => (trX Γ W a).2 s G fun k G1 => if k = true then (trX Γ W b).2 s G1 Q else Q false G1)
  | .or a b => (fun s G Q => (trX Γ W a).1 s G fun x G1 => uTru x G1 fun k G2 => if k = true then Q x G2 else (trX Γ W b).1 s G2 Q,
    fun s G Q => (trX Γ W a).2 s G fun k G1 => if k = true then Q true G1 else (trX Γ W b).2 s G1 Q)
  | .ife c a b => (fun s G Q => (trX Γ W c).2 s G fun k G1 => if k = true then (trX Γ W a).1 s G1 Q else (trX Γ W b).1 s G1 Q, fun _ _ _ => False)
  | .tup es => pl fun s G Q => trA Γ W es s G fun us G1 => us.length ≤ sizeLine ∧ Q (.tup us) G1
  | .lst es => pl fun s G Q => trA Γ W es s G fun us G1 => us.length ≤ sizeLine ∧ ∀ p, G1 p = none → Q (.ref p) (up G1 p (.lst us))
  | .call f es => pl fun s G Q => trA Γ W es s G fun us G1 => Γ.fn f us G1 Q (fun xn G2 => W xn s G2)
  | .blt b es => pl fun s G Q => trA Γ W es s G fun us G1 => b.fn us G1 Q
  | .mth m o es => pl fun s G Q => (trX Γ W o).1 s G fun x G1 => mTy m.T x G1 ∧ trA Γ W es s G1 fun us G2 => m.fn x us G2 Q
  | .ix o i => pl (uBin uIx (trX Γ W o).1 (trX Γ W i).1)
  | .sl o lo hi => pl fun s G Q => (trX Γ W o).1 s G fun x G1 => trO Γ W lo s G1 fun l G2 => trO Γ W hi s G2 fun h G3 => uSl x l h G3 Q
  | .stp o c => pl (uBin uStp (trX Γ W o).1 (trX Γ W c).1)
  | .lc2 elt tg it c tg1 it1 c1 => pl fun s G Q => trI Γ W it s G fun ds ys G1 => ∀ p, G1 p = none →
      lc2U ds p (fun y k G2 => trG tg y (wipeU s (slotsG tg ++ slotsG tg1)) G2 k) (trC Γ (fun _ _ _ => False) c)
        (fun s1 G2 acc K => trI Γ (fun _ _ _ => False) it1 s1 G2 fun ds1 zs G3 => lcK ds1 p (fun z k G4 => trG tg1 z (wipeU s1 (slotsG tg1)) G4 k) (trC Γ (fun _ _ _ => False) c1) (trX Γ (fun _ _ _ => False) elt).1 K zs acc G3) Q ys [] (up G1 p (.lst []))
  | .lc elt tg it c => pl fun s G Q => trI Γ W it s G fun ds ys G1 => ∀ p, G1 p = none →
      lcU ds p (fun y k G2 => trG tg y (wipeU s (slotsG tg)) G2 k) (trC Γ (fun _ _ _ => False) c) (trX Γ (fun _ _ _ => False) elt).1 Q ys [] (up G1 p (.lst []))
def trA (Γ : Gam) (W : UW) : Exs → UTA
  | .nil => fun _ G Q => Q [] G
  | .cons e es => fun s G Q => (trX Γ W e).1 s G fun u G1 => trA Γ W es s G1 fun us G2 => Q (u :: us) G2
def trO (Γ : Gam) (W : UW) : Exo → USt → UH → (Option Int → UH → Prop) → Prop
  | .no => fun _ G Q => Q none G
  | .yes e => fun s G Q => (trX Γ W e).1 s G fun u G1 => match u with
    | .int i => Q (some i) G1
    | _ => False
def trC (Γ : Gam) (W : UW) : Exo → UTT
  | .no => fun _ G Q => Q true G
  | .yes e => (trX Γ W e).2
def trI (Γ : Gam) (W : UW) : Ito → USt → UH → (Deps → List U → UH → Prop) → Prop
  | .rng1 a => fun s G R => (trX Γ W a).1 s G fun x G1 => match x with
    | .int j => small62 j ∧ R [] (rangeU 0 1 j.toNat) G1
    | _ => False
  | .rng2 a b => fun s G R => (trX Γ W a).1 s G fun x G1 => (trX Γ W b).1 s G1 fun y G2 => match x, y with
    | .int i, .int j => small62 i ∧ small62 j ∧ R [] (rangeU i 1 (j - i).toNat) G2
    | _, _ => False
  | .rng3 a b c => fun s G R => (trX Γ W a).1 s G fun x G1 => (trX Γ W b).1 s G1 fun y G2 => (trX Γ W c).1 s G2 fun z G3 => match x, y, z with
    | .int i, .int j, .int c => small62 i ∧ small62 j ∧ 0 < c ∧ c < 1073741824 ∧ R [] (rangeU i c (rlen i j c)) G3
    | _, _, _ => False
  | .val e => fun s G R => (trX Γ W e).1 s G fun x G1 => match x with
    | .str z => R [] (z.cps.toList.map fun c => U.str ⟨#[c]⟩) G1
    | x => seqOf x G1 fun ds us => R ds us G1
  | .enum e => fun s G R => (trX Γ W e).1 s G fun x G1 => seqOf x G1 fun ds us => R ds (enumU 0 us) G1
  | .zip a b => fun s G R => (trX Γ W a).1 s G fun x G1 => (trX Γ W b).1 s G1 fun y G2 => seqOf x G2 fun ds us => seqOf y G2 fun es ws => R (ds ++ es) (zipU us ws) G2
end
def trE (Γ : Gam) (W : UW) (e : Ex) : UT := (trX Γ W e).1
def trT (Γ : Gam) (W : UW) (e : Ex) : UTT := (trX Γ W e).2
example {Γ : Gam} {W : UW} {i : Nat} : trE Γ W (.var i) = uVar i := rfl
example {Γ : Gam} {W : UW} {a b c : Ex} : trE Γ W (.ife a b c) = fun s G Q => trT Γ W a s G fun k G1 => if k = true then trE Γ W b s G1 Q else trE Γ W c s G1 Q := rfl
end UL
set_option Elab.async false
set_option linter.all false
set_option autoImplicit false
set_option maxRecDepth 100000
set_option maxHeartbeats 4000000
/-! UL8: a tree fits the text: expressions. -/
namespace UL
open PySem PySem.Spec L2
def notStar : Expr → Bool
  | .Starred _ _ => false
  | _ => true
def notSet : Expr → Bool
  | .Set _ _ _ => false
  | _ => true
def plainT : Expr → Bool
  | .UnaryOp op _ _ => decide (op ≠ .Not)
  | .BoolOp _ _ _ => false
  | .IfExp _ _ _ _ => false
  | .Compare _ _ _ _ => false
  | _ => true
def plainO : Expr → Bool
  | .Name _ _ => true
  | .Subscript _ _ _ => true
  | .Attribute _ _ _ => true
  | .Constant _ _ _ => true
  | _ => false
def notSl : Expr → Bool
  | .Slice _ _ _ _ => false
  | _ => true
theorem star_each {e : Expr} {es : List Expr} {env : Env} (h : notStar e = true) : starEach (e :: es) env = (false, eval e env) :: starEach es env := by
  cases e <;> first | rfl | cases h
theorem star_any {env : Env} {pos : Pos} : ∀ {es : List Expr}, es.all notStar = true → (backTo pos (starEach es env)).any (·.1) = false
  | [], _ => rfl
  | e :: es, h => by
    simp only [List.all_cons, Bool.and_eq_true] at h
    rw [star_each h.1]
    have ih := star_any (env := env) (pos := pos) h.2
    show ((false || (backTo pos (starEach es env)).any (·.1))) = false
    rw [ih]; rfl
theorem star_all {env : Env} {pos : Pos} : ∀ {es : List Expr}, es.all notStar = true → (backTo pos (starEach es env)).all (fun x => !x.1) = true
  | [], _ => rfl
  | e :: es, h => by
    simp only [List.all_cons, Bool.and_eq_true] at h
    rw [star_each h.1]
    have ih := star_all (env := env) (pos := pos) h.2
    show ((!false && (backTo pos (starEach es env)).all (fun x => !x.1))) = true
    rw [ih]; rfl
theorem assign_each {e : Expr} {es : List Expr} {env : Env} (h : notStar e = true) : assignEach (e :: es) env = (false, assign e env) :: assignEach es env := by
  cases e <;> first | rfl | cases h
theorem plain_t {e : Expr} {env : Env} (h : plainT e = true) : ∀ whole, isTrue e env whole = (do let v ← whole; standAt e.pos; holding [v] (truthy v)) := by
  intro whole
  cases e with
  | UnaryOp op a pos =>
    have h' : op ≠ .Not := of_decide_eq_true h
    cases op <;> first | rfl | exact absurd rfl h'
  | BoolOp _ _ _ => cases h
  | IfExp _ _ _ _ => cases h
  | Compare _ _ _ _ => cases h
  | _ => rfl
theorem plain_o {o : Expr} {f : Str} {env : Env} (h : plainO o = true) : attributeBase o f env (eval o env) = eval o env := by
  cases o <;> first | rfl | cases h
theorem plain_ix {b : Expr} (h : notSl b = true) : PlainIx b := by
  intro o i
  cases b <;> first | rfl | cases h
theorem not_set {e : Expr} {env : Env} (h : notSet e = true) : ∀ x, foldedSetIterable e env x = pure x := by
  intro x
  cases e <;> first | rfl | cases h
theorem nomark' {op : CmpOp} {e : Expr} (h : notSet e = true) : behindInMarks op e = false := by
  cases e <;> first | rfl | cases h

mutual
def chkG (N : List Str) (sc : Scope) : Tg → Expr → Bool
  | .nm i => fun ex => match ex with
    | .Name x _ => decide (N[i]? = some x) && locB sc x
    | _ => false
  | .tup ts => fun ex => match ex with
    | .Tuple es _ _ => chkGs N sc ts es
    | _ => false
def chkGs (N : List Str) (sc : Scope) : Tgs → List Expr → Bool
  | .nil => fun es => match es with
    | [] => true
    | _ => false
  | .cons t ts => fun es => match es with
    | e :: es => notStar e && chkG N sc t e && chkGs N sc ts es
    | _ => false
end
def ownOf (N : List Str) (vs : List Nat) : List (Str × Nat) := vs.map fun i => (N.getD i "", i)
mutual
def chkE (N : List Str) (sc : Scope) (tb : Tab) : Ex → Expr → Bool
  | .var i => fun ex => match ex with
    | .Name x _ => decide (N[i]? = some x) && visB sc x && !(x == ("__debug__" : Str)) && !(x == ("__classdict__" : Str))
    | _ => false
  | .int i => fun ex => match ex with
    | .Constant (.int j) _ _ => decide (i = j)
    | _ => false
  | .bl i => fun ex => match ex with
    | .Constant (.bool j) _ _ => decide (i = j)
    | _ => false
  | .non => fun ex => match ex with
    | .Constant .none _ _ => true
    | _ => false
  | .str i => fun ex => match ex with
    | .Constant (.str j) _ _ => decide (i = j)
    | _ => false
  | .gl i => fun ex => match ex with
    | .Name x _ => decide (tb.gls[i]? = some x) && glB sc x
    | _ => false
  | .ty n => fun ex => match ex with
    | .Name x _ => glB sc x && decide (x ∈ bltNames) && decide (bootBuiltins x = some (.type n)) && decide (x ≠ "__name__") && !(x == ("__debug__" : Str))
    | _ => false
  | .bin op a b => fun ex => match ex with
    | .BinOp l o r _ => decide (op = o) && chkE N sc tb a l && chkE N sc tb b r
    | _ => false
  | .neg a => fun ex => match ex with
    | .UnaryOp .USub l _ => chkE N sc tb a l
    | _ => false
  | .not a => fun ex => match ex with
    | .UnaryOp .Not l _ => chkE N sc tb a l
    | _ => false
  | .cmp op a b => fun ex => match ex with
    | .Compare l [o] [r] _ => decide (op = o) && notSet r && chkE N sc tb a l && chkE N sc tb b r
    | _ => false
  | .chain o1 o2 a b c => fun ex => match ex with
    | .Compare l [p, q] [r, t] _ => decide (o1 = p) && decide (o2 = q) && notSet r && notSet t && chkE N sc tb a l && chkE N sc tb b r && chkE N sc tb c t
    | _ => false
  | .and a b => fun ex => match ex with
    | .BoolOp .And (x :: y :: rest) pos => chkE N sc tb a x && (match rest with
      | [] => chkE N sc tb b y
      | _ => chkE N sc tb b (.BoolOp .And (y :: rest) pos))
    | _ => false
  | .or a b => fun ex => match ex with
    | .BoolOp .Or (x :: y :: rest) pos => chkE N sc tb a x && (match rest with
      | [] => chkE N sc tb b y
      | _ => chkE N sc tb b (.BoolOp .Or (y :: rest) pos))
    | _ => false
  | .ife c a b => fun ex => match ex with
    | .IfExp t x y _ => chkE N sc tb c t && chkE N sc tb a x && chkE N sc tb b y
    | _ => false
  | .tup es => fun ex => match ex with
    | .Tuple xs _ _ => chkA N sc tb es xs
    | _ => false
  | .lst es => fun ex => match ex with
    | .List xs _ => chkA N sc tb es xs
    | _ => false
  | .call f es => fun ex => match ex with
    | .Call (.Name x _) (y :: ys) [] _ => decide (tb.fns[f]? = some x) && glB sc x && chkA N sc tb es (y :: ys)
    | .Call (.Name x _) [] [] _ => decide (tb.fns[f]? = some x) && glB sc x && chkA N sc tb es []
    | _ => false
  | .blt b es => fun ex => match ex with
    | .Call (.Name x _) (y :: ys) [] _ => decide (b.nm = x) && glB sc x && chkA N sc tb es (y :: ys)
    | _ => false
  | .mth m o es => fun ex => match ex with
    | .Call (.Attribute r nm ap) (y :: ys) [] cp => decide (m.nm = nm) && plainO r && (ap.endLine == cp.line) && decide ((y :: ys).length < 29) && chkE N sc tb o r && chkA N sc tb es (y :: ys)
    | .Call (.Attribute r nm ap) [] [] cp => decide (m.nm = nm) && plainO r && (ap.endLine == cp.line) && chkE N sc tb o r && chkA N sc tb es []
    | _ => false
  | .ix o i => fun ex => match ex with
    | .Subscript x y _ => notSl y && chkE N sc tb o x && chkE N sc tb i y
    | _ => false
  | .sl o lo hi => fun ex => match ex with
    | .Subscript x (.Slice l h none _) _ => chkE N sc tb o x && chkO N sc tb lo l && chkO N sc tb hi h
    | _ => false
  | .stp o c => fun ex => match ex with
    | .Subscript x (.Slice none none (some st) _) _ => chkE N sc tb o x && chkE N sc tb c st
    | _ => false
  | .lc2 elt tg it c tg1 it1 c1 => fun ex => match ex with
    | .ListComp el [⟨t, i, ifs, 0⟩, ⟨t1, i1, ifs1, 0⟩] scope _ => notSet i && notSet i1 && blkC N sc scope (ownOf N (slotsG tg ++ slotsG tg1)) && chkI N sc tb it t i && chkG N scope tg t && chkC N scope tb c ifs && chkI N scope tb it1 t1 i1 && chkG N scope tg1 t1 && chkC N scope tb c1 ifs1 && chkE N scope tb elt el
    | _ => false
  | .lc elt tg it c => fun ex => match ex with
    | .ListComp el [⟨t, i, ifs, 0⟩] scope _ => notSet i && blkC N sc scope (ownOf N (slotsG tg)) && chkI N sc tb it t i && chkG N scope tg t && chkC N scope tb c ifs && chkE N scope tb elt el
    | _ => false
def chkA (N : List Str) (sc : Scope) (tb : Tab) : Exs → List Expr → Bool
  | .nil => fun xs => match xs with
    | [] => true
    | _ => false
  | .cons e es => fun xs => match xs with
    | x :: xs => notStar x && chkE N sc tb e x && chkA N sc tb es xs
    | _ => false
def chkO (N : List Str) (sc : Scope) (tb : Tab) : Exo → Option Expr → Bool
  | .no => fun x => match x with
    | none => true
    | _ => false
  | .yes e => fun x => match x with
    | some x => chkE N sc tb e x
    | _ => false
def chkC (N : List Str) (sc : Scope) (tb : Tab) : Exo → List Expr → Bool
  | .no => fun x => match x with
    | [] => true
    | _ => false
  | .yes e => fun x => match x with
    | [x] => chkE N sc tb e x
    | _ => false
def chkI (N : List Str) (sc : Scope) (tb : Tab) : Ito → Expr → Expr → Bool
  | .rng1 a => fun _ ex => match ex with
    | .Call (.Name x _) [y] [] _ => decide (x = "range") && glB sc x && notStar y && chkE N sc tb a y
    | _ => false
  | .rng2 a b => fun _ ex => match ex with
    | .Call (.Name x _) [y, z] [] _ => decide (x = "range") && glB sc x && notStar y && notStar z && chkE N sc tb a y && chkE N sc tb b z
    | _ => false
  | .rng3 a b c => fun _ ex => match ex with
    | .Call (.Name x _) [y, z, w] [] _ => decide (x = "range") && glB sc x && notStar y && notStar z && notStar w && chkE N sc tb a y && chkE N sc tb b z && chkE N sc tb c w
    | _ => false
  | .val e => fun _ ex => chkE N sc tb e ex
  | .enum e => fun t ex => match t, ex with
    | .Tuple _ _ _, .Call (.Name x _) [y] [] _ => decide (x = "enumerate") && glB sc x && notStar y && chkE N sc tb e y
    | _, _ => false
  | .zip a b => fun t ex => match t, ex with
    | .Tuple _ _ _, .Call (.Name x _) [y, z] [] _ => decide (x = "zip") && glB sc x && notStar y && notStar z && chkE N sc tb a y && chkE N sc tb b z
    | _, _ => false
end
theorem chkA_star {N : List Str} {sc : Scope} {tb : Tab} : ∀ {es : Exs} {xs : List Expr}, chkA N sc tb es xs = true → xs.all notStar = true
  | .nil, [], _ => rfl
  | .nil, _ :: _, h => by cases h
  | .cons _ _, [], h => by cases h
  | .cons e es, x :: xs, h => by
    simp only [chkA, Bool.and_eq_true] at h
    simp only [List.all_cons, Bool.and_eq_true]
    exact ⟨h.1.1, chkA_star h.2⟩
end UL
set_option Elab.async false
set_option linter.all false
set_option autoImplicit false
set_option maxRecDepth 100000
set_option maxHeartbeats 4000000
/-! UL9: soundness of targets, of what is walked. -/
namespace UL
open PySem PySem.Spec L2
def cG (K : PySem.W.Frag) (vs : List Nat) (t : U → USt → UH → (USt → UH → Prop) → Prop) : TG := fun v σ H Q => ∃ u s G Q0, RU K H u v ∧ SR K H s σ ∧ HR K G H ∧ t u s G Q0 ∧
  ∀ s' G' σ' H', Q0 s' G' → SR K H' s' σ' → HR K G' H' → Ext H H' → σ'.length = σ.length → (∀ i, i ∉ vs → σ'[i]? = σ[i]?) → Q σ' H'
def cGs (K : PySem.W.Frag) (vs : List Nat) (t : List U → USt → UH → (USt → UH → Prop) → Prop) : TGs := fun xs σ H Q => ∃ us s G Q0, RUs K H us xs ∧ SR K H s σ ∧ HR K G H ∧ t us s G Q0 ∧
  ∀ s' G' σ' H', Q0 s' G' → SR K H' s' σ' → HR K G' H' → Ext H H' → σ'.length = σ.length → (∀ i, i ∉ vs → σ'[i]? = σ[i]?) → Q σ' H'
theorem PG.weak {X : Cx} {e : Expr} {t t' : TG} (h : PG X e t) (w : ∀ v σ H Q, t' v σ H Q → t v σ H Q) : PG X e t' := ⟨fun pins s σ H v u Q I r q => h.run pins s σ H v u Q I r (w v σ H Q q)⟩
theorem PGs.weak {X : Cx} {e : List Expr} {t t' : TGs} (h : PGs X e t) (w : ∀ v σ H Q, t' v σ H Q → t v σ H Q) : PGs X e t' := ⟨fun pins s σ H v u Q I r q => h.run pins s σ H v u Q I r (w v σ H Q q)⟩
theorem chkGs_len {N : List Str} {sc : Scope} {env : Env} : ∀ {ts : Tgs} {es : List Expr}, chkGs N sc ts es = true → (assignEach es env).length = lenG ts ∧ (assignEach es env).findIdx? (·.1) = none
  | .nil, [], _ => ⟨rfl, rfl⟩
  | .nil, _ :: _, h => by cases h
  | .cons _ _, [], h => by cases h
  | .cons t ts, e :: es, h => by
    simp only [chkGs, Bool.and_eq_true] at h
    obtain ⟨i1, i2⟩ := chkGs_len (env := env) h.2
    rw [assign_each h.1.1]
    refine ⟨by simp [lenG, i1], ?_⟩
    rw [List.findIdx?_cons]
    simp [i2]
section
variable {sc : Scope} {tb : Tab} {Γ : Gam}
mutual
theorem sG {X : Cx} (C : CtxOk X sc tb Γ) : ∀ (t : Tg) (e : Expr), chkG X.N sc t e = true → PG X e (cG X.K (slotsG t) (trG t))
  | .nm i, e, h => by
    unfold chkG at h
    split at h
    · rename_i x p
      simp only [Bool.and_eq_true, decide_eq_true_eq] at h
      obtain ⟨h1, h2⟩ := h
      obtain ⟨hl, hf⟩ := C.sco.loc _ h2
      refine PG.weak (pg_name C.nd h1 hl hf) fun v σ H Q q => ?_
      obtain ⟨u, s, G, Q0, ru, hs, hg, q, k⟩ := q
      refine k _ G _ H q ?_ hg .refl (by simp) fun j hj => ?_
      · rw [setS_eq]; exact hs.set ru
      · have : i ≠ j := fun z => hj (by simp [slotsG, z])
        rw [List.getElem?_set_ne this]
    · cases h
  | .tup ts, e, h => by
    unfold chkG at h
    split at h
    · rename_i es kk p
      obtain ⟨l1, l2⟩ := chkGs_len (env := X.env) h
      have P := sGs C ts es h
      refine ⟨fun pins s σ H v u Q I r q => ?_⟩
      obtain ⟨w, s0, G, Q0, ru, hs, hg, q, k⟩ := q
      unfold trG at q
      split at q
      · obtain ⟨a, xs, rfl, h1, r1⟩ := ru.tup_inv
        exact (pg_tup (n := lenG ts) C.calm P l1 l2).run pins s σ H _ u Q I r ⟨a, xs, rfl, h1, by rw [← r1.length]; exact q.1, _, s0, G, Q0, r1, hs, hg, q.2, k⟩
      · cases ru
        split at q
        · rename_i e1
          obtain ⟨xs, h1, r1⟩ := hg.lst e1
          exact (pg_lst (n := lenG ts) C.calm P l1 l2).run pins s σ H _ u Q I r ⟨_, xs, rfl, SqL.of h1, by rw [← r1.length]; exact q.1, _, s0, G, Q0, r1, hs, hg, q.2, k⟩
        · exact q.elim
      · exact q.elim
    · cases h
theorem sGs {X : Cx} (C : CtxOk X sc tb Γ) : ∀ (ts : Tgs) (es : List Expr), chkGs X.N sc ts es = true → PGs X es (cGs X.K (slotsGs ts) (trGs ts))
  | .nil, [], _ => by
    refine PGs.weak pgs_nil fun v σ H Q q => ?_
    obtain ⟨us, s, G, Q0, ru, hs, hg, q, k⟩ := q
    obtain ⟨rfl, q⟩ := q
    cases ru
    exact ⟨rfl, k _ G _ H q hs hg .refl rfl fun _ _ => rfl⟩
  | .nil, _ :: _, h => by cases h
  | .cons _ _, [], h => by cases h
  | .cons t ts, e :: es, h => by
    simp only [chkGs, Bool.and_eq_true] at h
    refine PGs.weak (pgs_cons (sG C t e h.1.2) (sGs C ts es h.2) (by rw [assign_each h.1.1]; rfl)) fun v σ H Q q => ?_
    obtain ⟨us, s, G, Q0, ru, hs, hg, q, k⟩ := q
    unfold trGs at q
    split at q
    · cases ru with
      | cons r rt =>
        refine ⟨_, _, rfl, _, s, G, _, r, hs, hg, q, fun s1 G1 σ1 H1 q1 hs1 hg1 e1 l1 o1 => ?_⟩
        refine ⟨_, s1, G1, Q0, RUs.ext e1 rt, hs1, hg1, q1, fun s2 G2 σ2 H2 q2 hs2 hg2 e2 l2 o2 => ?_⟩
        refine k _ _ _ _ q2 hs2 hg2 (e1.trans e2) (l2.trans l1) fun i hi => ?_
        simp only [slotsGs, List.mem_append, not_or] at hi
        rw [o2 i hi.2, o1 i hi.1]
    · exact q.elim
end
end

/-! ### what is walked -/
structure ItRel (K : PySem.W.Frag) (H0 : Hp) (J : It) (ds : Deps) (ys : List U) : Prop where
  go : ∀ (i : Nat) (G : UH) (H : Hp), HR K G H → depsOk G ds → Ext H0 H → i < ys.length → J.go i H
  yld : ∀ (i : Nat) (G : UH) (H : Hp) (x : V) (H' : Hp), HR K G H → depsOk G ds → Ext H0 H → J.yld i H x H' → i < ys.length → ∃ u, ys[i]? = some u ∧ RU K H' u x ∧ HR K G H' ∧ Ext H H'
  stop : ∀ (G : UH) (H : Hp), HR K G H → depsOk G ds → Ext H0 H → J.stop ys.length H
def cI (K : PySem.W.Frag) (t : USt → UH → (Deps → List U → UH → Prop) → Prop) : TI := fun σ H R => ∃ s G R0, SR K H s σ ∧ HR K G H ∧ t s G R0 ∧
  ∀ ds ys G' H' J, R0 ds ys G' → HR K G' H' → Ext H H' → ItRel K H' J ds ys → R J H'
theorem PI.weak {X : Cx} {tg e : Expr} {t t' : TI} (h : PI X tg e t) (w : ∀ σ H R, t' σ H R → t σ H R) : PI X tg e t' := ⟨fun pins s σ H R I q => h.run pins s σ H R I (w σ H R q)⟩
theorem range_get : ∀ (n : Nat) (lo c : Int) (i : Nat), i < n → (rangeU lo c n)[i]? = some (.int (lo + i * c))
  | 0, _, _, _, h => by omega
  | n + 1, lo, c, 0, _ => by simp [rangeU]
  | n + 1, lo, c, i + 1, h => by
    simp only [rangeU, List.getElem?_cons_succ]
    rw [range_get n (lo + c) c i (by omega)]
    congr 2
    have : ((i + 1 : Nat) : Int) * c = (i : Int) * c + c := by
      rw [Int.natCast_add, Int.add_mul]; simp
    omega
theorem range_len : ∀ (n : Nat) (lo c : Int), (rangeU lo c n).length = n
  | 0, _, _ => rfl
  | n + 1, lo, c => by simp [rangeU, range_len n]
theorem enum_get : ∀ (us : List U) (k i : Nat), (enumU k us)[i]? = (us[i]?).map fun u => .tup [.int ((k + i : Nat) : Int), u]
  | [], _, _ => by simp [enumU]
  | u :: us, k, 0 => by simp [enumU]
  | u :: us, k, i + 1 => by
    simp only [enumU, List.getElem?_cons_succ]
    rw [enum_get us (k + 1) i]
    have : k + 1 + i = k + (i + 1) := by omega
    rw [this]
theorem enum_len : ∀ (us : List U) (k : Nat), (enumU k us).length = us.length
  | [], _ => rfl
  | u :: us, k => by simp [enumU, enum_len us]
theorem zip_get : ∀ (us ws : List U) (i : Nat) (u w : U), us[i]? = some u → ws[i]? = some w → (zipU us ws)[i]? = some (.tup [u, w])
  | [], _, _, _, _, h, _ => by simp at h
  | _ :: _, [], _, _, _, _, h => by simp at h
  | a :: us, b :: ws, 0, u, w, h1, h2 => by simp at h1 h2; subst h1; subst h2; simp [zipU]
  | a :: us, b :: ws, i + 1, u, w, h1, h2 => by simp [zipU]; exact zip_get us ws i u w (by simpa using h1) (by simpa using h2)
theorem zip_len : ∀ (us ws : List U), (zipU us ws).length = min us.length ws.length
  | [], _ => by simp [zipU]
  | _ :: _, [] => by simp [zipU]
  | a :: us, b :: ws => by simp [zipU, zip_len us ws]
theorem it_range {K : PySem.W.Frag} {H0 : Hp} (lo c : Int) (n : Nat) : ItRel K H0 (Itc lo c n) [] (rangeU lo c n) := by
  refine ⟨fun i G H _ _ _ hi => ?_, fun i G H x H' hg _ _ y hi => ?_, fun G H _ _ _ => ?_⟩
  · rw [range_len] at hi; exact hi
  · rw [range_len] at hi
    obtain ⟨rfl, rfl⟩ := y
    exact ⟨_, range_get n lo c i hi, .int _, hg, .refl⟩
  · rw [range_len]; exact Nat.le_refl _
theorem it_range1 {K : PySem.W.Frag} {H0 : Hp} (lo : Int) (n : Nat) : ItRel K H0 (Itr lo n) [] (rangeU lo 1 n) := by
  refine ⟨fun i G H _ _ _ hi => ?_, fun i G H x H' hg _ _ y hi => ?_, fun G H _ _ _ => ?_⟩
  · rw [range_len] at hi; exact hi
  · rw [range_len] at hi
    obtain ⟨rfl, rfl⟩ := y
    have q := range_get n lo 1 i hi
    rw [Int.mul_one] at q
    exact ⟨_, q, .int _, hg, .refl⟩
  · rw [range_len]; exact Nat.le_refl _
theorem it_tup {K : PySem.W.Frag} {H0 : Hp} {a : Addr} {xs : List V} {us : List U} (h : SqT K H0 a xs) (r : RUs K H0 us xs) : ItRel K H0 (Itt K a) [] us := by
  refine ⟨fun i G H _ _ e hi => ?_, fun i G H x H' hg _ e y hi => ?_, fun G H _ _ e => ?_⟩
  · rw [r.length] at hi
    exact ⟨xs, xs[i], SqT.ext e h, by simp [hi]⟩
  · obtain ⟨rfl, y⟩ := y
    obtain ⟨u, h1, h2⟩ := (RUs.ext e r).get' (y xs (SqT.ext e h))
    exact ⟨u, h1, h2, hg, .refl⟩
  · exact ⟨xs, SqT.ext e h, by rw [r.length]; exact Nat.le_refl _⟩
theorem it_rol {K : PySem.W.Frag} {H0 : Hp} {a : Addr} {xs : List V} {us : List U} (h : Frz K H0 a xs) (r : RUs K H0 us xs) : ItRel K H0 (Itl K a) [] us := by
  refine ⟨fun i G H _ _ e hi => ?_, fun i G H x H' hg _ e y hi => ?_, fun G H _ _ e => ?_⟩
  · rw [r.length] at hi
    exact ⟨xs, xs[i], (Frz.ext e h).sq, by simp [hi]⟩
  · obtain ⟨rfl, y⟩ := y
    obtain ⟨u, h1, h2⟩ := (RUs.ext e r).get' (y xs (Frz.ext e h).sq)
    exact ⟨u, h1, h2, hg, .refl⟩
  · exact ⟨xs, (Frz.ext e h).sq, by rw [r.length]; exact Nat.le_refl _⟩
theorem it_lst {K : PySem.W.Frag} {H0 : Hp} {a : Addr} {us : List U} : ItRel K H0 (Itl K a) [(a, us)] us := by
  refine ⟨fun i G H hg d e hi => ?_, fun i G H x H' hg d e y hi => ?_, fun G H hg d e => ?_⟩
  · obtain ⟨xs, h1, r⟩ := hg.lst d.1
    rw [r.length] at hi
    exact ⟨xs, xs[i], SqL.of h1, by simp [hi]⟩
  · obtain ⟨xs, h1, r⟩ := hg.lst d.1
    obtain ⟨rfl, y⟩ := y
    obtain ⟨u, h1, h2⟩ := r.get' (y xs (SqL.of h1))
    exact ⟨u, h1, h2, hg, .refl⟩
  · obtain ⟨xs, h1, r⟩ := hg.lst d.1
    exact ⟨xs, SqL.of h1, by rw [r.length]; exact Nat.le_refl _⟩
theorem it_str {K : PySem.W.Frag} {H0 : Hp} (z : Str) : ItRel K H0 (Its z) [] (z.cps.toList.map fun c => U.str ⟨#[c]⟩) := by
  refine ⟨fun i G H _ _ _ hi => ?_, fun i G H x H' hg _ _ y hi => ?_, fun G H _ _ _ => ?_⟩
  · show i < z.cps.size
    simpa using hi
  · obtain ⟨rfl, c, hc, rfl⟩ := y
    refine ⟨.str ⟨#[c]⟩, ?_, .str _, hg, .refl⟩
    rw [List.getElem?_map, Array.getElem?_toList, hc]; rfl
  · show z.cps.size ≤ _
    simp
/-- a sequence that is told, as the layer below has it -/
theorem seq_of {K : PySem.W.Frag} {G : UH} {H : Hp} {u : U} {v : V} {k : Deps → List U → Prop} (hg : HR K G H) (r : RU K H u v) (h : seqOf u G k) :
    ∃ (kk : Bool) (a : Addr) (xs : List V) (ds : Deps) (us : List U), v = .ref a ∧ SqK K H kk a xs ∧ k ds us ∧ depsOk G ds ∧
      (∀ G1 H1, HR K G1 H1 → depsOk G1 ds → Ext H H1 → ∃ ys, SqK K H1 kk a ys ∧ RUs K H1 us ys) := by
  unfold seqOf at h
  split at h
  · obtain ⟨a, xs, rfl, h1, r1⟩ := r.tup_inv
    exact ⟨true, a, xs, _, _, rfl, h1, h, trivial, fun G1 H1 _ _ e => ⟨xs, SqT.ext e h1, RUs.ext e r1⟩⟩
  · obtain ⟨a, xs, rfl, h1, r1⟩ := r.rol_inv
    exact ⟨false, a, xs, _, _, rfl, h1.sq, h, trivial, fun G1 H1 _ _ e => ⟨xs, (Frz.ext e h1).sq, RUs.ext e r1⟩⟩
  · cases r
    split at h
    · rename_i e1
      obtain ⟨xs, h1, r1⟩ := hg.lst e1
      exact ⟨false, _, xs, _, _, rfl, SqL.of h1, h, ⟨e1, trivial⟩, fun G1 H1 hg1 d e => by
        obtain ⟨ys, h2, r2⟩ := hg1.lst d.1
        exact ⟨ys, SqL.of h2, r2⟩⟩
    · exact h.elim
  · exact h.elim
theorem depsOk_app {G : UH} : ∀ {ds es : Deps}, depsOk G (ds ++ es) ↔ depsOk G ds ∧ depsOk G es
  | [], es => by simp [depsOk]
  | d :: ds, es => by simp [depsOk, depsOk_app (ds := ds), and_assoc]
theorem it_enum {K : PySem.W.Frag} {H0 : Hp} {kk : Bool} {a : Addr} {ds : Deps} {us : List U}
    (h : ∀ G1 H1, HR K G1 H1 → depsOk G1 ds → Ext H0 H1 → ∃ ys, SqK K H1 kk a ys ∧ RUs K H1 us ys) : ItRel K H0 (IteK K kk a) ds (enumU 0 us) := by
  refine ⟨fun i G H hg d e hi => ?_, fun i G H x H' hg d e y hi => ?_, fun G H hg d e => ?_⟩
  · obtain ⟨xs, h1, r⟩ := h G H hg d e
    rw [enum_len, r.length] at hi
    exact ⟨xs, xs[i], h1, by simp [hi]⟩
  · obtain ⟨xs, h1, r⟩ := h G H hg d e
    obtain ⟨T, z, rfl, hT, rfl, y⟩ := y
    obtain ⟨u, h2, h3⟩ := r.get' (y xs h1)
    obtain ⟨e1, g1, q⟩ := hg.newTup hT (ws := [.int (i : Nat), u]) (ys := [.int (i : Nat), z]) (.cons (.int _) (.cons h3 .nil))
    exact ⟨_, by rw [enum_get, h2]; simp, q, g1, e1⟩
  · obtain ⟨xs, h1, r⟩ := h G H hg d e
    exact ⟨xs, h1, by rw [enum_len, r.length]⟩
theorem it_zip {K : PySem.W.Frag} {H0 : Hp} {k1 k2 : Bool} {a b : Addr} {ds es : Deps} {us ws : List U}
    (h : ∀ G1 H1, HR K G1 H1 → depsOk G1 ds → Ext H0 H1 → ∃ ys, SqK K H1 k1 a ys ∧ RUs K H1 us ys)
    (h' : ∀ G1 H1, HR K G1 H1 → depsOk G1 es → Ext H0 H1 → ∃ ys, SqK K H1 k2 b ys ∧ RUs K H1 ws ys) : ItRel K H0 (ItzK K k1 k2 a b) (ds ++ es) (zipU us ws) := by
  refine ⟨fun i G H hg d e hi => ?_, fun i G H x H' hg d e y hi => ?_, fun G H hg d e => ?_⟩
  · obtain ⟨d1, d2⟩ := depsOk_app.mp d
    obtain ⟨xs, h1, r⟩ := h G H hg d1 e
    obtain ⟨ys, h2, r2⟩ := h' G H hg d2 e
    rw [zip_len, r.length, r2.length] at hi
    have i1 : i < xs.length := by omega
    have i2 : i < ys.length := by omega
    exact ⟨xs, ys, xs[i], ys[i], h1, h2, by simp [i1], by simp [i2]⟩
  · obtain ⟨d1, d2⟩ := depsOk_app.mp d
    obtain ⟨xs, h1, r⟩ := h G H hg d1 e
    obtain ⟨ys, h2, r2⟩ := h' G H hg d2 e
    obtain ⟨T, z, z2, rfl, hT, rfl, y1, y2⟩ := y
    obtain ⟨u, h3, h4⟩ := r.get' (y1 xs h1)
    obtain ⟨w, h5, h6⟩ := r2.get' (y2 ys h2)
    obtain ⟨e1, g1, q⟩ := hg.newTup hT (ws := [u, w]) (ys := [z, z2]) (.cons h4 (.cons h6 .nil))
    exact ⟨_, zip_get us ws i u w h3 h5, q, g1, e1⟩
  · obtain ⟨d1, d2⟩ := depsOk_app.mp d
    obtain ⟨xs, h1, r⟩ := h G H hg d1 e
    obtain ⟨ys, h2, r2⟩ := h' G H hg d2 e
    refine ⟨xs, ys, h1, h2, ?_⟩
    rw [zip_len, r.length, r2.length]
    omega
end UL
set_option Elab.async false
set_option linter.all false
set_option autoImplicit false
set_option maxRecDepth 100000
set_option maxHeartbeats 4000000
/-! UL10: soundness of expressions. -/
namespace UL
open PySem PySem.Spec L2
def cO (K : PySem.W.Frag) (t : USt → UH → (Option Int → UH → Prop) → Prop) : TO := fun σ H Q => ∃ s G Q0, SR K H s σ ∧ HR K G H ∧ t s G Q0 ∧ ∀ o G' H', Q0 o G' → HR K G' H' → Ext H H' → Q o H'
theorem PO.weak {X : Cx} {e : Option Expr} {t t' : TO} (h : PO X e t) (w : ∀ σ H Q, t' σ H Q → t σ H Q) : PO X e t' := ⟨fun pins s σ H Q I q => h.run pins s σ H Q I (w σ H Q q)⟩
theorem PTs.weak {X : Cx} {e : List Expr} {t t' : TT} (h : PTs X e t) (w : ∀ σ H Q, t' σ H Q → t σ H Q) : PTs X e t' := ⟨fun pins s σ H Q I q => h.run pins s σ H Q I (w σ H Q q)⟩
theorem pw_of {X : Cx} {op : BoolOp} {vs : List Expr} {pos : Pos} {t : TT} (h : PT X (.BoolOp op vs pos) t) : PW X (.BoolOp op vs pos) t :=
  ⟨fun _ pins s σ H Q I q => h.run pins s σ H Q I q⟩
section
variable {X : Cx}
theorem Blt.pe {b : Blt} {e : Expr} {es : List Expr} {p pos : Pos} {t : TA} (hc : X.calm = true) (hg : Gl X b.nm) (hm : X.mg b.nm = none) (ha : PA X (e :: es) t)
    (he : starEach (e :: es) X.env = (false, eval e X.env) :: starEach es X.env) (hpl : (backTo pos (starEach es X.env)).any (·.1) = false) : PE X (.Call (.Name b.nm p) (e :: es) [] pos) (tCB (cF X.K b.fn) t) := by
  have k := Blt.ok (X := X) hc b
  cases b with
  | len => exact pe_callB k hg hm (by decide +kernel) ha (by decide) (by decide) he hpl
  | abs => exact pe_callB k hg hm (by decide +kernel) ha (by decide) (by decide) he hpl
  | max2 => exact pe_callB k hg hm (by decide +kernel) ha (by decide) (by decide) he hpl
  | min2 => exact pe_callB k hg hm (by decide +kernel) ha (by decide) (by decide) he hpl
  | int => exact pe_callTy k hg hm (by decide +kernel) ha (by decide) (by decide) he hpl
  | str => exact pe_callTy k hg hm (by decide +kernel) ha (by decide) (by decide) he hpl
  | ord => exact pe_callB k hg hm (by decide +kernel) ha (by decide) (by decide) he hpl
  | sum => exact pe_callB k hg hm (by decide +kernel) ha (by decide) (by decide) he hpl
  | sorted => exact pe_callB k hg hm (by decide +kernel) ha (by decide) (by decide) he hpl
  | tuple => exact pe_callTy k hg hm (by decide +kernel) ha (by decide) (by decide) he hpl
  | list => exact pe_callTy k hg hm (by decide +kernel) ha (by decide) (by decide) he hpl
  | all => exact pe_callB k hg hm (by decide +kernel) ha (by decide) (by decide) he hpl
  | any => exact pe_callB k hg hm (by decide +kernel) ha (by decide) (by decide) he hpl
  | maxL => exact pe_callB k hg hm (by decide +kernel) ha (by decide) (by decide) he hpl
  | minL => exact pe_callB k hg hm (by decide +kernel) ha (by decide) (by decide) he hpl
  | divmod => exact pe_callB k hg hm (by decide +kernel) ha (by decide) (by decide) he hpl
  | isi => exact pe_callB k hg hm (by decide +kernel) ha (by decide) (by decide) he hpl
theorem Blt.nm_mem (b : Blt) : b.nm ∈ bltNames := by
  cases b <;> decide
theorem pe_callSD0 {k : Nat} {f : Addr} {fd : FuncData} {ps : List Str} {sp : Sp} {E : L2.St → XK} {x : Str} {p pos : Pos} (F : FnOk X.prog X.w X.K X.mg X.base (CX X.prog X.w) k f fd ps sp) (hr : Room k X.A) (hg : Gl X x) (hm : X.mg x = some (.ref f))
    (hk : PySem.W.keepIn X.K (.ref f) = true) (hb : Binds X.K fd ps []) (hx : ∀ σ, PassesAt (CX X.prog X.w) X σ (E σ)) (hdb : (x == ("__debug__" : Str)) = false) : PE X (.Call (.Name x p) [] [] pos) (tCallSD sp [] E tNil) := by
  refine ⟨fun pins s σ H Q I h => ?_⟩
  refine wpAny_Call_Name_kw (ld_glob I hg hm ?_ hdb)
  exact PySem.W.callWith_K0 I.kIn hk (run_fnSD (us := []) F hr hb .nil (hx σ) I .nil h)
end
theorem wipe_get {σ : L2.St} : ∀ {vs : List Nat} {i : Nat}, (wipe σ vs)[i]? = if i ∈ vs ∧ i < σ.length then some none else σ[i]?
  | [], i => by simp [wipe]
  | v :: vs, i => by
    unfold wipe
    by_cases h : v = i
    · subst h
      by_cases hl : v < σ.length
      · rw [List.getElem?_set_self (by rw [wipe_length]; exact hl), if_pos ⟨List.mem_cons_self, hl⟩]
      · rw [if_neg (fun z => hl z.2), List.getElem?_eq_none (by simpa [wipe_length] using hl), List.getElem?_eq_none (by simpa using hl)]
    · rw [List.getElem?_set_ne h, wipe_get]
      simp [Ne.symm h]
theorem wipe_eq {σ σ' : L2.St} {vs : List Nat} (hl : σ'.length = σ.length) (h : ∀ i, i ∉ vs → σ'[i]? = (wipe σ vs)[i]?) : wipe σ' vs = wipe σ vs := by
  refine List.ext_getElem? fun i => ?_
  rw [wipe_get, wipe_get, hl]
  by_cases hi : i ∈ vs
  · by_cases h2 : i < σ.length
    · rw [if_pos ⟨hi, h2⟩, if_pos ⟨hi, h2⟩]
    · rw [if_neg (fun z => h2 z.2), if_neg (fun z => h2 z.2), List.getElem?_eq_none (by omega), List.getElem?_eq_none (by omega)]
  · rw [if_neg (fun z => hi z.1), if_neg (fun z => hi z.1), h i hi, wipe_get, if_neg (fun z => hi z.1)]
theorem SR.wipe {K : PySem.W.Frag} {H : Hp} {s : USt} {σ : L2.St} (r : SR K H s σ) : ∀ vs : List Nat, SR K H (wipeU s vs) (wipe σ vs)
  | [] => r
  | v :: vs => by
    unfold wipeU L2.wipe
    rw [setS_eq]
    exact (SR.wipe r vs).unset v none
theorem own_snd (N : List Str) (vs : List Nat) : (ownOf N vs).map (·.2) = vs := by
  unfold ownOf
  rw [List.map_map]
  exact List.map_id' vs
theorem takes_false {X : Cx} {W : WX} (h : ∀ c d σ H, ¬ W c d σ H) : Takes X W := fun u s' ⟨_, _, _, _, _, _, _, _, _, _, _, _, _, _, _, _, w⟩ => absurd w (h _ _ _ _)
section
variable {sc : Scope} {tb : Tab} {Γ : Gam}
theorem ScOk.blk {X : Cx} (C : ScOk X sc) (s : Shared) (H : Hp) (scope : Scope) (Cc : Addr) (cl : List (Str × Addr)) (fp : List Addr) : ScOk (X.blk s H scope (compEnvC scope cl Cc X.env) fp) scope := by
  have keep : ∀ {x : Str} {k : NameKind}, k ≠ .free → scope.names.lookup x = some k → (relS scope X.env.scope).names.lookup x = some k := fun hk h => lookup_relS_keep hk h
  have fr : ∀ {x : Str}, scope.names.lookup x = some .free → (relS scope X.env.scope).names.lookup x = some .cell ∨ (relS scope X.env.scope).names.lookup x = some .free := fun {x} h => by
    have q : ∀ l : List (Str × NameKind), l.lookup x = some .free → (l.map fun (n, k) => if (k == NameKind.free && X.env.scope.kind == .function && X.env.scope.names.lookup n == some .cell) then (n, NameKind.cell) else (n, k)).lookup x = some .cell ∨
        (l.map fun (n, k) => if (k == NameKind.free && X.env.scope.kind == .function && X.env.scope.names.lookup n == some .cell) then (n, NameKind.cell) else (n, k)).lookup x = some .free := by
      intro l
      induction l with
      | nil => intro z; cases z
      | cons p r ih =>
        obtain ⟨n, k⟩ := p
        intro z
        by_cases e : x = n
        · subst e
          simp only [List.lookup_cons, beq_self_eq_true] at z
          cases z
          simp only [List.map_cons]
          split
          · left; simp [List.lookup_cons]
          · right; simp [List.lookup_cons]
        · have e' : (x == n) = false := by simpa using e
          simp only [List.lookup_cons, e'] at z
          simp only [List.map_cons]
          have i := ih z
          split
          · simpa [List.lookup_cons, e'] using i
          · simpa [List.lookup_cons, e'] using i
    exact q scope.names h
  refine ⟨fun x h => ?_, fun x h => ?_, fun x h => ?_, fun x h => ?_⟩
  · simp only [visB, Bool.or_eq_true, decide_eq_true_eq] at h
    rcases h with (h | h) | h
    · exact .inl (keep (by decide) h)
    · exact .inr (.inl (keep (by decide) h))
    · rcases fr h with z | z
      · exact .inr (.inl z)
      · exact .inr (.inr z)
  · simp only [locB, Bool.or_eq_true, decide_eq_true_eq] at h
    rcases h with h | h
    · exact ⟨.inl (keep (by decide) h), .inr (keep (by decide) h)⟩
    · refine ⟨.inr (keep (by decide) h), .inl ?_⟩
      show (scope.names.lookup x == some .cell) = true
      rw [h]; rfl
  · have h' : scope.names.lookup x = some .globalImplicit := of_decide_eq_true h
    exact keep (by decide) h'
  · rcases h with h | h
    · exact .inl (keep (by decide) h)
    · exact fr h
theorem CtxOk.blk {X : Cx} (C : CtxOk X sc tb Γ) (s : Shared) (H : Hp) (scope : Scope) (Cc : Addr) (cl : List (Str × Addr)) (fp : List Addr) : CtxOk (X.blk s H scope (compEnvC scope cl Cc X.env) fp) scope tb Γ :=
  ⟨C.sco.blk s H scope Cc cl fp, C.nd, C.calm, C.hu, fun i x h => ⟨(C.fns i x h).ex, (C.fns i x h).db⟩, C.gls, C.blt⟩
theorem blk_ok {X : Cx} (C : CtxOk X sc tb Γ) {scope : Scope} {own : List (Str × Nat)} (h : blkC X.N sc scope own = true) : BlkOk X.N X.env.scope scope own := by
  obtain ⟨h1, h2, h3, h4, h5⟩ := blkOk_by h
  exact ⟨h1, h2, h3, fun y hy e => C.sco.cf _ (h4 y hy e), h5⟩
/-- a comprehension's turns, as the layer below asks for them -/
theorem lc_conv {X : Cx} {tg : Tg} {it : USt → UH → (Deps → List U → UH → Prop) → Prop} {tt : UTT} {te : UT} {σ : L2.St} {H : Hp} {Q : VK}
    (h : cE X.K (fun s G Q => it s G fun ds ys G1 => ∀ p, G1 p = none → lcU ds p (fun y k G2 => trG tg y (wipeU s (slotsG tg)) G2 k) tt te Q ys [] (up G1 p (.lst []))) σ H Q) :
    tLc (cI X.K it) (cG X.K (slotsG tg) (trG tg)) (cT X.K tt) (cE X.K te) (slotsG tg) σ H Q := by
  obtain ⟨s, G, Q0, hs, hg, h, k⟩ := h
  refine ⟨s, G, _, hs, hg, h, fun ds ys G1 H1 J h1 hg1 e1 R => ?_⟩
  intro D hD
  obtain ⟨eD, gD⟩ := hg1.newLst (p := D) (ws := []) (ys := []) hD .nil
  have h1 := h1 D (hg1.fresh hD)
  refine ⟨fun i m H2 => m = ys.length - i ∧ i ≤ ys.length ∧ Ext H1 H2 ∧ ∃ acc G2, HR X.K G2 H2 ∧ lcU ds D (fun y k G2 => trG tg y (wipeU s (slotsG tg)) G2 k) tt te Q0 (ys.drop i) acc G2, ⟨_, rfl, Nat.zero_le _, eD, [], _, gD, h1⟩, ?_⟩
  rintro i m H2 ⟨rfl, hi, e2, acc, G2, hg2, h2⟩
  by_cases hlt : i < ys.length
  · rw [List.drop_eq_getElem_cons hlt] at h2
    simp only [lcU] at h2
    obtain ⟨d2, p2, h2⟩ := h2
    refine .inr ⟨R.go i G2 H2 hg2 d2 e2 hlt, fun H3 => Ext H1 H3 ∧ ∃ acc G3, HR X.K G3 H3 ∧ lcU ds D (fun y k G2 => trG tg y (wipeU s (slotsG tg)) G2 k) tt te Q0 (ys.drop (i + 1)) acc G3, fun H' ⟨e', q'⟩ => ⟨_, by omega, rfl, hlt, e', q'⟩, fun x H3 y => ?_⟩
    obtain ⟨u, hu, ru, hg3, e3⟩ := R.yld i G2 H2 x H3 hg2 d2 e2 y hlt
    have eu : ys[i] = u := by
      rw [List.getElem?_eq_getElem hlt] at hu
      exact Option.some.inj hu
    rw [eu] at h2
    refine ⟨u, _, G2, _, ru, ((hs.ext (e1.trans (e2.trans e3)))).wipe _, hg3, h2, fun s4 G4 σ4 H4 h4 hs4 hg4 e4 l4 o4 => ?_⟩
    refine ⟨wipe_eq (by rw [l4, wipe_length]) o4, s4, G4, _, hs4, hg4, h4, fun b G5 H5 h5 hg5 e5 => ?_⟩
    have e15 : Ext H1 H5 := ((e2.trans e3).trans e4).trans e5
    cases b with
    | false =>
      simp only [Bool.false_eq_true, if_false] at h5 ⊢
      obtain ⟨G6, l6, h6⟩ := h5
      exact ⟨e15, acc, G6, hg5.le l6, h6⟩
    | true =>
      simp only [if_true] at h5 ⊢
      refine ⟨s4, G5, _, hs4.ext e5, hg5, h5, fun w G6 v6 H6 h6 r6 hg6 e6 => ?_⟩
      obtain ⟨p6, l6, G7, le7, h7⟩ := h6
      obtain ⟨xs, h8, r8⟩ := hg6.lst p6
      obtain ⟨e8, g8⟩ := hg6.setLst p6 (r8.append (.cons r6 .nil))
      exact ⟨xs, h8, by rw [← r8.length]; exact l6, (e15.trans e6).trans e8, _, G7, g8.le le7, h7⟩
  · have ei : i = ys.length := by omega
    subst ei
    rw [List.drop_length] at h2
    simp only [lcU] at h2
    exact .inl ⟨R.stop G2 H2 hg2 h2.1 e2, k _ G2 _ H2 h2.2.2 (.ref D) hg2 (e1.trans e2)⟩
theorem lc2_conv {X : Cx} {tg tg1 : Tg} {it it1 : USt → UH → (Deps → List U → UH → Prop) → Prop} {tt tt1 : UTT} {te : UT} {σ : L2.St} {H : Hp} {Q : VK}
    (h : cE X.K (fun s G Q => it s G fun ds ys G1 => ∀ p, G1 p = none → lc2U ds p (fun y k G2 => trG tg y (wipeU s (slotsG tg ++ slotsG tg1)) G2 k) tt
      (fun s1 G2 acc K => it1 s1 G2 fun ds1 zs G3 => lcK ds1 p (fun z k G4 => trG tg1 z (wipeU s1 (slotsG tg1)) G4 k) tt1 te K zs acc G3) Q ys [] (up G1 p (.lst []))) σ H Q) :
    tLc2 (cI X.K it) (cG X.K (slotsG tg) (trG tg)) (cT X.K tt) (cI X.K it1) (cG X.K (slotsG tg1) (trG tg1)) (cT X.K tt1) (cE X.K te) (slotsG tg ++ slotsG tg1) (slotsG tg1) σ H Q := by
  obtain ⟨s, G, Q0, hs, hg, h, k⟩ := h
  refine ⟨s, G, _, hs, hg, h, fun ds ys G1 H1 J h1 hg1 e1 R => ?_⟩
  intro D hD
  obtain ⟨eD, gD⟩ := hg1.newLst (p := D) (ws := []) (ys := []) hD .nil
  have h1 := h1 D (hg1.fresh hD)
  generalize hin : (fun (s1 : USt) (G2 : UH) (acc : List U) (K : List U → UH → Prop) => it1 s1 G2 fun ds1 zs G3 => lcK ds1 D (fun z k G4 => trG tg1 z (wipeU s1 (slotsG tg1)) G4 k) tt1 te K zs acc G3) = inner at h1
  refine ⟨fun i m H2 => m = ys.length - i ∧ i ≤ ys.length ∧ Ext H1 H2 ∧ ∃ acc G2, HR X.K G2 H2 ∧ lc2U ds D (fun y k G2 => trG tg y (wipeU s (slotsG tg ++ slotsG tg1)) G2 k) tt inner Q0 (ys.drop i) acc G2, ⟨_, rfl, Nat.zero_le _, eD, [], _, gD, h1⟩, ?_⟩
  rintro i m H2 ⟨rfl, hi, e2, acc, G2, hg2, h2⟩
  by_cases hlt : i < ys.length
  · rw [List.drop_eq_getElem_cons hlt] at h2
    simp only [lc2U] at h2
    obtain ⟨d2, p2, h2⟩ := h2
    refine .inr ⟨R.go i G2 H2 hg2 d2 e2 hlt, fun H3 => Ext H1 H3 ∧ ∃ acc G3, HR X.K G3 H3 ∧ lc2U ds D (fun y k G2 => trG tg y (wipeU s (slotsG tg ++ slotsG tg1)) G2 k) tt inner Q0 (ys.drop (i + 1)) acc G3, fun H' ⟨e', q'⟩ => ⟨_, by omega, rfl, hlt, e', q'⟩, fun x H3 y => ?_⟩
    obtain ⟨u, hu, ru, hg3, e3⟩ := R.yld i G2 H2 x H3 hg2 d2 e2 y hlt
    have eu : ys[i] = u := by
      rw [List.getElem?_eq_getElem hlt] at hu
      exact Option.some.inj hu
    rw [eu] at h2
    refine ⟨u, _, G2, _, ru, ((hs.ext (e1.trans (e2.trans e3)))).wipe _, hg3, h2, fun s4 G4 σ4 H4 h4 hs4 hg4 e4 l4 o4 => ?_⟩
    refine ⟨wipe_eq (by rw [l4, wipe_length]) fun j hj => o4 j (fun z => hj (List.mem_append_left _ z)), s4, G4, _, hs4, hg4, h4, fun b G5 H5 h5 hg5 e5 => ?_⟩
    have e15 : Ext H1 H5 := ((e2.trans e3).trans e4).trans e5
    cases b with
    | false =>
      simp only [Bool.false_eq_true, if_false] at h5 ⊢
      obtain ⟨G6, l6, h6⟩ := h5
      exact ⟨e15, acc, G6, hg5.le l6, h6⟩
    | true =>
      simp only [if_true] at h5 ⊢
      rw [← hin] at h5
      refine ⟨s4, G5, _, hs4.ext e5, hg5, h5, fun ds1 zs G6 H6 J1 h6 hg6 e6 R1 => ?_⟩
      generalize hK : (fun (acc' : List U) (G3 : UH) => ∃ G4, Le G4 G3 ∧ lc2U ds D (fun y k G2 => trG tg y (wipeU s (slotsG tg ++ slotsG tg1)) G2 k) tt (fun (s1 : USt) (G2 : UH) (acc : List U) (K : List U → UH → Prop) => it1 s1 G2 fun ds1 zs G3 => lcK ds1 D (fun z k G4 => trG tg1 z (wipeU s1 (slotsG tg1)) G4 k) tt1 te K zs acc G3) Q0 (ys.drop (i + 1)) acc' G4) = K at h6
      refine ⟨fun j m H7 => m = zs.length - j ∧ j ≤ zs.length ∧ Ext H6 H7 ∧ ∃ acc G7, HR X.K G7 H7 ∧ lcK ds1 D (fun z k G4 => trG tg1 z (wipeU s4 (slotsG tg1)) G4 k) tt1 te K (zs.drop j) acc G7, ⟨_, rfl, Nat.zero_le _, .refl, acc, _, hg6, h6⟩, ?_⟩
      rintro j m H7 ⟨rfl, hj, e7, acc7, G7, hg7, h7⟩
      by_cases hlj : j < zs.length
      · rw [List.drop_eq_getElem_cons hlj] at h7
        simp only [lcK] at h7
        obtain ⟨d7, p7, h7⟩ := h7
        refine .inr ⟨R1.go j G7 H7 hg7 d7 e7 hlj, fun H8 => Ext H6 H8 ∧ ∃ acc G8, HR X.K G8 H8 ∧ lcK ds1 D (fun z k G4 => trG tg1 z (wipeU s4 (slotsG tg1)) G4 k) tt1 te K (zs.drop (j + 1)) acc G8, fun H' ⟨e', q'⟩ => ⟨_, by omega, rfl, hlj, e', q'⟩, fun x1 H8 y1 => ?_⟩
        obtain ⟨u1, hu1, ru1, hg8, e8⟩ := R1.yld j G7 H7 x1 H8 hg7 d7 e7 y1 hlj
        have eu1 : zs[j] = u1 := by
          rw [List.getElem?_eq_getElem hlj] at hu1
          exact Option.some.inj hu1
        rw [eu1] at h7
        refine ⟨u1, _, G7, _, ru1, ((hs4.ext (e5.trans (e6.trans (e7.trans e8))))).wipe _, hg8, h7, fun s9 G9 σ9 H9 h9 hs9 hg9 e9 l9 o9 => ?_⟩
        refine ⟨wipe_eq (by rw [l9, wipe_length]) o9, s9, G9, _, hs9, hg9, h9, fun b1 Ga Ha ha hga ea => ?_⟩
        have e6a : Ext H6 Ha := ((e7.trans e8).trans e9).trans ea
        cases b1 with
        | false =>
          simp only [Bool.false_eq_true, if_false] at ha ⊢
          obtain ⟨Gb, lb, hb⟩ := ha
          exact ⟨e6a, acc7, Gb, hga.le lb, hb⟩
        | true =>
          simp only [if_true] at ha ⊢
          refine ⟨s9, Ga, _, hs9.ext ea, hga, ha, fun w Gb vb Hb hb rb hgb eb => ?_⟩
          obtain ⟨pb, lb, Gc, lec, hc⟩ := hb
          obtain ⟨xs, hx, rx⟩ := hgb.lst pb
          obtain ⟨ed, gd⟩ := hgb.setLst pb (rx.append (.cons rb .nil))
          exact ⟨xs, hx, by rw [← rx.length]; exact lb, (e6a.trans eb).trans ed, _, Gc, gd.le lec, hc⟩
      · have ej : j = zs.length := by omega
        subst ej
        rw [List.drop_length] at h7
        simp only [lcK] at h7
        obtain ⟨d7, p7, h7⟩ := h7
        rw [← hK] at h7
        obtain ⟨G8, l8, h8⟩ := h7
        rw [← hin]
        exact .inl ⟨R1.stop G7 H7 hg7 d7 e7, (e15.trans e6).trans e7, acc7, G8, hg7.le l8, h8⟩
  · have ei : i = ys.length := by omega
    subst ei
    rw [List.drop_length] at h2
    simp only [lc2U] at h2
    exact .inl ⟨R.stop G2 H2 hg2 h2.1 e2, k _ G2 _ H2 h2.2.2 (.ref D) hg2 (e1.trans e2)⟩
end
end UL
set_option Elab.async false
set_option linter.all false
set_option autoImplicit false
set_option maxRecDepth 100000
set_option maxHeartbeats 4000000
/-! UL11: soundness of expressions. -/
namespace UL
open PySem PySem.Spec L2
theorem last2 {o p : CmpOp} {b c : Expr} (h : notSet c = true) : lastMarks [o, p] [b, c] = false := by
  show behindInMarks p c = false
  exact nomark' h
theorem call_xr {K : PySem.W.Frag} {mg : Str → Option Value} {tb : Tab} {sp : USp} {W : UW} {s : USt} {σ : L2.St} {us : List U} {G : UH} {vs : List V} {H H0 : Hp} {Q : VK} {Q0 : UK}
    (hs : SR K H s σ) (hg : HR K G H) (r : RUs K H us vs) (e0 : Ext H0 H) (h : sp us G Q0 fun xn G2 => W xn s G2)
    (k : ∀ u G' v H', Q0 u G' → RU K H' u v → HR K G' H' → Ext H0 H' → Q v H') : cSp K mg tb sp (vs ++ []) H Q (WE (cW K mg tb W) σ) := by
  rw [List.append_nil]
  exact ⟨us, G, Q0, _, r, hg, h, fun u G' v H' q r' g' e' => k u G' v H' q r' g' (e0.trans e'), fun xn G' cls d H' q x g' e' => ⟨xn, s, G', hs.ext e', g', x, q⟩⟩
theorem cmp_chain {K : PySem.W.Frag} {o1 o2 : CmpOp} {ta tb tc : UT} {σ : L2.St} {H : Hp} {Q : VK}
    (h : cE K (fun s G Q => ta s G fun x G1 => tb s G1 fun y G2 => uCmp o1 x y G2 fun z G3 => match z with
    | .bl k => if k = true then tc s G3 fun w G4 => uCmp o2 y w G4 Q else Q (.bl false) G3
    | _ => False) σ H Q) : tChain (c2 K (uCmp o1)) (c2 K (uCmp o2)) (cE K ta) (cE K tb) (cE K tc) σ H Q := by
  obtain ⟨s, G, Q0, hs, hg, h, k⟩ := h
  refine ⟨s, G, _, hs, hg, h, fun x G1 v H1 h1 r1 g1 e1 => ⟨s, G1, _, hs.ext e1, g1, h1, fun y G2 v2 H2 h2 r2 g2 e2 => ?_⟩⟩
  refine ⟨x, y, G2, _, RU.ext e2 r1, r2, g2, h2, fun z G3 v3 H3 h3 r3 g3 e3 => ?_⟩
  split at h3
  · rename_i kk
    cases r3
    refine ⟨kk, rfl, ?_⟩
    cases kk with
    | false => simp only [Bool.false_eq_true, if_false] at h3 ⊢; exact k _ G3 _ H3 h3 (.bl _) g3 ((e1.trans e2).trans e3)
    | true =>
      simp only [if_true] at h3 ⊢
      refine ⟨s, G3, _, hs.ext ((e1.trans e2).trans e3), g3, h3, fun w G4 v4 H4 h4 r4 g4 e4 => ?_⟩
      exact ⟨y, w, G4, Q0, RU.ext (e3.trans e4) r2, r4, g4, h4, fun z5 G5 v5 H5 h5 r5 g5 e5 => k z5 G5 v5 H5 h5 r5 g5 ((((e1.trans e2).trans e3).trans e4).trans e5)⟩
  · exact h3.elim
theorem cmp_chainT {K : PySem.W.Frag} {o1 o2 : CmpOp} {ta tb tc : UT} {σ : L2.St} {H : Hp} {Q : Bool → Hp → Prop}
    (h : cT K (fun s G Q => ta s G fun x G1 => tb s G1 fun y G2 => uCmp o1 x y G2 fun z G3 => match z with
    | .bl k => if k = true then tc s G3 fun w G4 => uCmp o2 y w G4 fun z2 G5 => (match z2 with
        | .bl k2 => Q k2 G5
        | _ => False) else Q false G3
    | _ => False) σ H Q) : tTest (tChain (c2 K (uCmp o1)) (c2 K (uCmp o2)) (cE K ta) (cE K tb) (cE K tc)) σ H Q := by
  obtain ⟨s, G, Q0, hs, hg, h, k⟩ := h
  refine ⟨s, G, _, hs, hg, h, fun x G1 v H1 h1 r1 g1 e1 => ⟨s, G1, _, hs.ext e1, g1, h1, fun y G2 v2 H2 h2 r2 g2 e2 => ?_⟩⟩
  refine ⟨x, y, G2, _, RU.ext e2 r1, r2, g2, h2, fun z G3 v3 H3 h3 r3 g3 e3 => ?_⟩
  split at h3
  · rename_i kk
    cases r3
    refine ⟨kk, rfl, ?_⟩
    cases kk with
    | false => simp only [Bool.false_eq_true, if_false] at h3 ⊢; exact ⟨false, rfl, k _ G3 H3 h3 g3 ((e1.trans e2).trans e3)⟩
    | true =>
      simp only [if_true] at h3 ⊢
      refine ⟨s, G3, _, hs.ext ((e1.trans e2).trans e3), g3, h3, fun w G4 v4 H4 h4 r4 g4 e4 => ?_⟩
      refine ⟨y, w, G4, _, RU.ext (e3.trans e4) r2, r4, g4, h4, fun z5 G5 v5 H5 h5 r5 g5 e5 => ?_⟩
      split at h5
      · cases r5
        exact ⟨_, rfl, k _ G5 H5 h5 g5 ((((e1.trans e2).trans e3).trans e4).trans e5)⟩
      · exact h5.elim
  · exact h3.elim
theorem pt_plain {X : Cx} {e : Expr} {t : UT} (h : plainT e = true) (p : PE X e (cE X.K t)) : PT X e (cT X.K fun s G Q => t s G fun x G1 => uTru x G1 Q) := by
  refine PT.weak (pt_truth p (plain_t h)) fun σ H Q q => ?_
  obtain ⟨s, G, Q0, hs, hg, q, k⟩ := q
  refine ⟨s, G, _, hs, hg, q, fun x G1 v H1 q1 r1 g1 e1 => ?_⟩
  obtain ⟨kk, e2, q2⟩ := tru_u g1 r1 q1
  exact ⟨kk, e2, k _ G1 H1 q2 g1 e1⟩
theorem one_a {X : Cx} {y : Expr} {t : UT} (p : PE X y (cE X.K t)) (n : notStar y = true) : PA X [y] (cA X.K fun s G Q => t s G fun u G1 => Q [u] G1) := by
  refine PA.weak (pa_cons p pa_nil (star_each n)) fun σ H Q q => ?_
  obtain ⟨s, G, Q0, hs, hg, q, k⟩ := q
  exact ⟨s, G, _, hs, hg, q, fun u G1 v H1 q1 r1 g1 e1 => k _ G1 _ H1 q1 (.cons r1 .nil) g1 e1⟩
theorem two_a {X : Cx} {y z : Expr} {t u : UT} (p : PE X y (cE X.K t)) (p2 : PE X z (cE X.K u)) (n : notStar y = true) (n2 : notStar z = true) : PA X [y, z] (cA X.K fun s G Q => t s G fun x G1 => u s G1 fun w G2 => Q [x, w] G2) := by
  refine PA.weak (pa_cons p (pa_cons p2 pa_nil (star_each n2)) (star_each n)) fun σ H Q q => ?_
  obtain ⟨s, G, Q0, hs, hg, q, k⟩ := q
  refine ⟨s, G, _, hs, hg, q, fun u G1 v H1 q1 r1 g1 e1 => ⟨s, G1, _, hs.ext e1, g1, q1, fun u2 G2 v2 H2 q2 r2 g2 e2 => ?_⟩⟩
  exact k _ G2 _ H2 q2 (.cons (RU.ext e2 r1) (.cons r2 .nil)) g2 (e1.trans e2)
theorem three_a {X : Cx} {y z w : Expr} {t u o : UT} (p : PE X y (cE X.K t)) (p2 : PE X z (cE X.K u)) (p3 : PE X w (cE X.K o)) (n : notStar y = true) (n2 : notStar z = true) (n3 : notStar w = true) :
    PA X [y, z, w] (cA X.K fun s G Q => t s G fun x G1 => u s G1 fun w G2 => o s G2 fun v G3 => Q [x, w, v] G3) := by
  refine PA.weak (pa_cons p (pa_cons p2 (pa_cons p3 pa_nil (star_each n3)) (star_each n2)) (star_each n)) fun σ H Q q => ?_
  obtain ⟨s, G, Q0, hs, hg, q, k⟩ := q
  refine ⟨s, G, _, hs, hg, q, fun u G1 v H1 q1 r1 g1 e1 => ⟨s, G1, _, hs.ext e1, g1, q1, fun u2 G2 v2 H2 q2 r2 g2 e2 => ⟨s, G2, _, hs.ext (e1.trans e2), g2, q2, fun u3 G3 v3 H3 q3 r3 g3 e3 => ?_⟩⟩⟩
  exact k _ G3 _ H3 q3 (.cons (RU.ext (e2.trans e3) r1) (.cons (RU.ext e3 r2) (.cons r3 .nil))) g3 ((e1.trans e2).trans e3)
theorem rlen_eq {i j c : Int} (h3 : 0 < c) : Builtin.Range.rangeSize i j c = (rlen i j c : Int) := by
  have hc : ¬ (c = 0) := by omega
  unfold Builtin.Range.rangeSize rlen
  rw [if_pos h3]
  have e1 : j - i + c - 1 = (j - i - 1) + c := by omega
  rw [e1, show (j - i - 1) + c = (j - i - 1) + c * 1 by omega, Int.add_mul_ediv_left _ _ hc]
  split
  · rename_i h
    have : 0 ≤ (j - i - 1) / c := Int.ediv_nonneg (by omega) (by omega)
    omega
  · rename_i h
    have : (j - i - 1) / c < 0 := Int.ediv_neg_of_neg_of_pos (by omega) h3
    omega
theorem rlen_le {i j c : Int} (h3 : 0 < c) : (rlen i j c : Int) ≤ (j - i).toNat := by
  unfold rlen
  have hc : ¬ (c = 0) := by omega
  have e1 : j - i + c - 1 = (j - i - 1) + c * 1 := by omega
  rw [e1, Int.add_mul_ediv_left _ _ hc]
  have : (j - i - 1) / c ≤ max (j - i - 1) (-1) := by
    by_cases h : 0 ≤ j - i - 1
    · have := Int.ediv_le_self c h
      omega
    · have : (j - i - 1) / c < 0 := Int.ediv_neg_of_neg_of_pos (by omega) h3
      omega
  omega
theorem rg_ok {i j c : Int} (h1 : small62 i) (h2 : small62 j) (h3 : 0 < c) (h4 : c < 1073741824) : RgC i j c (rlen i j c) := by
  unfold small62 at h1 h2
  refine ⟨by omega, by omega, ?_, rlen_eq h3⟩
  have l := rlen_le (i := i) (j := j) h3
  have hm : (rlen i j c : Int) * c ≤ (j - i).toNat + c := by
    by_cases h : i < j
    · have e := rlen_eq (i := i) (j := j) h3
      unfold Builtin.Range.rangeSize at e
      rw [if_pos h3, if_pos h] at e
      rw [← e, Int.add_mul, Int.one_mul]
      have := Int.ediv_mul_le (j - i - 1) (by omega : c ≠ 0)
      omega
    · have e := rlen_eq (i := i) (j := j) h3
      unfold Builtin.Range.rangeSize at e
      rw [if_pos h3, if_neg h] at e
      rw [← e]; omega
  unfold Builtin.Range.small
  rw [rlen_eq h3]
  simp only [Builtin.Range.rangeFitsLong, Bool.and_eq_true, Bool.or_eq_true, decide_eq_true_eq, beq_iff_eq, show c > 0 from h3, if_true]
  generalize hz : (rlen i j c : Int) * c = z at *
  omega
/-- a tuple, a list or a text: told when it is there -/
theorem pi_any {X : Cx} {tg l : Expr} {tl : TE} (hl : PE X l tl) : PI X tg l (fun σ H R => tl σ H fun x H1 => (∃ z, x = .str z ∧ R (Its z) H1) ∨ (∃ a, x = .ref a ∧ (∃ xs, SqL X.K H1 a xs) ∧ R (Itl X.K a) H1) ∨ ∃ a, x = .ref a ∧ (∃ xs, SqT X.K H1 a xs) ∧ R (Itt X.K a) H1) := by
  refine ⟨fun pins s σ H R I h => thn (hl.run pins s σ H _ I h) fun v s1 ⟨x, H1, I1, r1, q1⟩ => ?_⟩
  rcases q1 with ⟨z, e, q⟩ | ⟨a, e, ⟨xs, hq⟩, q⟩ | ⟨a, e, ⟨xs, hq⟩, q⟩ <;> subst e
  · obtain ⟨t, rfl⟩ := r1
    cases ha : z.cps.all (· < 128)
    · exact wpAny_pyIter_wide ha (pi_one (tk := s1.toks) I1 _ (turn_str _ z t "str_iterator" (.inr rfl)) ⟨_, Heap.get?_push_size _ rfl, rfl, rfl⟩ q)
    · exact wpAny_pyIter_ascii ha (pi_one (tk := s1.toks) I1 _ (turn_str _ z t "str_ascii_iterator" (.inl rfl)) ⟨_, Heap.get?_push_size _ rfl, rfl, rfl⟩ q)
  · cases r1
    obtain ⟨its, rv, p, hz⟩ := I1.list hq
    exact wpAny_pyIter_list p.isList (pi_one (tk := s1.toks) I1 _ (turn_list a _) ⟨_, Heap.get?_push_size _ rfl, rfl, rfl⟩ q)
  · cases r1
    obtain ⟨its, rv, p, hz⟩ := I1.tuple hq
    exact wpAny_pyIter_tuple (show s1.heap.IsTuple a its.toArray from p) (pi_one (tk := s1.toks) I1 _ (turn_tuple a _) ⟨_, Heap.get?_push_size _ rfl, rfl, rfl⟩ q)
theorem val_ok {X : Cx} {tg e : Expr} {t : UT} (p : PE X e (cE X.K t)) : PI X tg e (cI X.K fun s G R => t s G fun x G1 => match x with
    | .str z => R [] (z.cps.toList.map fun c => U.str ⟨#[c]⟩) G1
    | x => seqOf x G1 fun ds us => R ds us G1) := by
  refine PI.weak (pi_any p) fun σ H R q => ?_
  obtain ⟨s, G, R0, hs, hg, q, k⟩ := q
  refine ⟨s, G, _, hs, hg, q, fun u G1 v H1 q1 r1 g1 e1 => ?_⟩
  split at q1
  · cases r1
    exact .inl ⟨_, rfl, k _ _ _ _ _ q1 g1 e1 (it_str _)⟩
  · obtain ⟨kk, a, xs, ds, us, rfl, hq, q2, dk, st⟩ := seq_of g1 r1 q1
    have ir : ItRel X.K H1 (match kk with | true => Itt X.K a | false => Itl X.K a) ds us := by
      cases kk
      · refine ⟨fun i G H hg d e hi => ?_, fun i G H x H' hg d e y hi => ?_, fun G H hg d e => ?_⟩
        · obtain ⟨ys, h1, r⟩ := st G H hg d e
          rw [r.length] at hi
          exact ⟨ys, ys[i], h1, by simp [hi]⟩
        · obtain ⟨ys, h1, r⟩ := st G H hg d e
          obtain ⟨rfl, y⟩ := y
          obtain ⟨u, h2, h3⟩ := r.get' (y ys h1)
          exact ⟨u, h2, h3, hg, .refl⟩
        · obtain ⟨ys, h1, r⟩ := st G H hg d e
          exact ⟨ys, h1, by rw [r.length]; exact Nat.le_refl _⟩
      · refine ⟨fun i G H hg d e hi => ?_, fun i G H x H' hg d e y hi => ?_, fun G H hg d e => ?_⟩
        · obtain ⟨ys, h1, r⟩ := st G H hg d e
          rw [r.length] at hi
          exact ⟨ys, ys[i], h1, by simp [hi]⟩
        · obtain ⟨ys, h1, r⟩ := st G H hg d e
          obtain ⟨rfl, y⟩ := y
          obtain ⟨u, h2, h3⟩ := r.get' (y ys h1)
          exact ⟨u, h2, h3, hg, .refl⟩
        · obtain ⟨ys, h1, r⟩ := st G H hg d e
          exact ⟨ys, h1, by rw [r.length]; exact Nat.le_refl _⟩
    have q3 := k _ _ _ _ _ q2 g1 e1 ir
    cases kk
    · exact .inr (.inl ⟨a, rfl, ⟨xs, hq⟩, q3⟩)
    · exact .inr (.inr ⟨a, rfl, ⟨xs, hq⟩, q3⟩)
section
variable {tb : Tab} {Γ : Gam}
mutual
theorem sE : ∀ (e : Ex) {X : Cx} {sc : Scope}, CtxOk X sc tb Γ → ∀ (W : UW), Takes X (cW X.K X.mg tb W) → ∀ ex : Expr, chkE X.N sc tb e ex = true → PE X ex (cE X.K (trE Γ W e))
  | .var i, X, sc, C, W, tk, ex, h => by
    unfold chkE at h
    split at h
    · simp only [Bool.and_eq_true, decide_eq_true_eq, Bool.not_eq_true'] at h
      obtain ⟨⟨⟨h1, h2⟩, h3⟩, h4⟩ := h
      exact PE.weak (pe_var h1 (C.sco.vis _ h2) h3 h4) fun σ H Q => cVar
    · cases h
  | .int i, X, sc, C, W, tk, ex, h => by
    unfold chkE at h
    split at h
    · rw [decide_eq_true_eq] at h
      subst h
      exact PE.weak pe_int fun σ H Q q => cC (fun _ => .int _) q
    · cases h
  | .bl i, X, sc, C, W, tk, ex, h => by
    unfold chkE at h
    split at h
    · rw [decide_eq_true_eq] at h
      subst h
      exact PE.weak pe_bl fun σ H Q q => cC (fun _ => .bl _) q
    · cases h
  | .non, X, sc, C, W, tk, ex, h => by
    unfold chkE at h
    split at h
    · exact PE.weak pe_non fun σ H Q q => cC (fun _ => .non) q
    · cases h
  | .str i, X, sc, C, W, tk, ex, h => by
    unfold chkE at h
    split at h
    · rw [decide_eq_true_eq] at h
      subst h
      exact PE.weak pe_str fun σ H Q q => cC (fun _ => .str _) q
    · cases h
  | .gl i, X, sc, C, W, tk, ex, h => by
    unfold chkE at h
    split at h
    · simp only [Bool.and_eq_true, decide_eq_true_eq] at h
      obtain ⟨w, v, hm, r, ru, db⟩ := C.gls i _ h.1
      exact PE.weak (pe_glob (C.sco.gl _ h.2) hm r db) fun σ H Q q => cC ru q
    · cases h
  | .ty n, X, sc, C, W, tk, ex, h => by
    unfold chkE at h
    split at h
    · simp only [Bool.and_eq_true, decide_eq_true_eq, Bool.not_eq_true'] at h
      obtain ⟨⟨⟨⟨h1, h2⟩, h3⟩, h4⟩, h5⟩ := h
      exact PE.weak (pe_bltn (v := .ty n) (C.sco.gl _ h1) (C.blt _ h2) h3 rfl h4 h5) fun σ H Q q => cC (fun _ => .ty n) q
    · cases h
  | .bin op a b, X, sc, C, W, tk, ex, h => by
    unfold chkE at h
    split at h
    · simp only [Bool.and_eq_true, decide_eq_true_eq] at h
      obtain ⟨⟨h1, h2⟩, h3⟩ := h
      subst h1
      exact PE.weak (pe_op (op_any op) (sE a C W tk _ h2) (sE b C W tk _ h3)) fun σ H Q => cOp
    · cases h
  | .neg a, X, sc, C, W, tk, ex, h => by
    unfold chkE at h
    split at h
    · exact PE.weak (pe_un un_uNeg (sE a C W tk _ h)) fun σ H Q q => cUn (r := uNeg) (ta := trE Γ W a) q
    · cases h
  | .not a, X, sc, C, W, tk, ex, h => by
    unfold chkE at h
    split at h
    · refine PE.weak (pe_notT (sE a C W tk _ h)) fun σ H Q q => ?_
      obtain ⟨s, G, Q0, hs, hg, q, k⟩ := q
      refine ⟨s, G, _, hs, hg, q, fun x G1 v H1 h1 r1 g1 e1 => ?_⟩
      obtain ⟨kk, e2, q2⟩ := tru_u g1 r1 h1
      exact ⟨kk, e2, k _ G1 _ H1 q2 (.bl _) g1 e1⟩
    · cases h
  | .cmp op a b, X, sc, C, W, tk, ex, h => by
    unfold chkE at h
    split at h
    · simp only [Bool.and_eq_true, decide_eq_true_eq] at h
      obtain ⟨⟨⟨h1, h2⟩, h3⟩, h4⟩ := h
      subst h1
      exact PE.weak (pe_cmpR (cmp_any C.hu op) (sE a C W tk _ h3) (sE b C W tk _ h4) (nomark' h2)) fun σ H Q => cOp
    · cases h
  | .chain o1 o2 a b c, X, sc, C, W, tk, ex, h => by
    unfold chkE at h
    split at h
    · simp only [Bool.and_eq_true, decide_eq_true_eq] at h
      obtain ⟨⟨⟨⟨⟨⟨h1, h2⟩, h3⟩, h4⟩, h5⟩, h6⟩, h7⟩ := h
      subst h1 h2
      exact PE.weak (pe_chain (cmp_any C.hu o1) (cmp_any C.hu o2) (sE a C W tk _ h5) (sE b C W tk _ h6) (sE c C W tk _ h7) (last2 h4)) fun σ H Q => cmp_chain
    · cases h
  | .and a b, X, sc, C, W, tk, ex, h => by
    unfold chkE at h
    split at h
    · rename_i x y rest pos
      simp only [Bool.and_eq_true] at h
      obtain ⟨h1, h2⟩ := h
      have hb : PE X (.BoolOp .And (y :: rest) pos) (cE X.K (trE Γ W b)) := by
        split at h2
        · exact pe_one (sE b C W tk _ h2)
        · exact sE b C W tk _ h2
      refine PE.weak (pe_andT (sE a C W tk _ h1) hb) fun σ H Q q => ?_
      obtain ⟨s, G, Q0, hs, hg, q, k⟩ := q
      refine ⟨s, G, _, hs, hg, q, fun x G1 v H1 h1 r1 g1 e1 => ?_⟩
      obtain ⟨kk, e2, q2⟩ := tru_u g1 r1 h1
      refine ⟨kk, e2, ?_⟩
      cases kk with
      | false => simp only [Bool.false_eq_true, if_false] at q2 ⊢; exact k _ G1 _ H1 q2 r1 g1 e1
      | true =>
        simp only [if_true] at q2 ⊢
        exact ⟨s, G1, Q0, hs.ext e1, g1, q2, fun u G' v H' q' r' g' e' => k u G' v H' q' r' g' (e1.trans e')⟩
    · cases h
  | .or a b, X, sc, C, W, tk, ex, h => by
    unfold chkE at h
    split at h
    · rename_i x y rest pos
      simp only [Bool.and_eq_true] at h
      obtain ⟨h1, h2⟩ := h
      have hb : PE X (.BoolOp .Or (y :: rest) pos) (cE X.K (trE Γ W b)) := by
        split at h2
        · exact pe_one (sE b C W tk _ h2)
        · exact sE b C W tk _ h2
      refine PE.weak (pe_orT (sE a C W tk _ h1) hb) fun σ H Q q => ?_
      obtain ⟨s, G, Q0, hs, hg, q, k⟩ := q
      refine ⟨s, G, _, hs, hg, q, fun x G1 v H1 h1 r1 g1 e1 => ?_⟩
      obtain ⟨kk, e2, q2⟩ := tru_u g1 r1 h1
      refine ⟨kk, e2, ?_⟩
      cases kk with
      | true => simp only [if_true] at q2 ⊢; exact k _ G1 _ H1 q2 r1 g1 e1
      | false =>
        simp only [Bool.false_eq_true, if_false] at q2 ⊢
        exact ⟨s, G1, Q0, hs.ext e1, g1, q2, fun u G' v H' q' r' g' e' => k u G' v H' q' r' g' (e1.trans e')⟩
    · cases h
  | .ife c a b, X, sc, C, W, tk, ex, h => by
    unfold chkE at h
    split at h
    · simp only [Bool.and_eq_true] at h
      obtain ⟨⟨h1, h2⟩, h3⟩ := h
      refine PE.weak (pe_ifExp (sT c C W tk _ h1) (sE a C W tk _ h2) (sE b C W tk _ h3)) fun σ H Q q => ?_
      obtain ⟨s, G, Q0, hs, hg, q, k⟩ := q
      refine ⟨s, G, _, hs, hg, q, fun kk G1 H1 q1 g1 e1 => ?_⟩
      cases kk with
      | true =>
        simp only [if_true] at q1 ⊢
        exact ⟨s, G1, Q0, hs.ext e1, g1, q1, fun u G' v H' q' r' g' e' => k u G' v H' q' r' g' (e1.trans e')⟩
      | false =>
        simp only [Bool.false_eq_true, if_false] at q1 ⊢
        exact ⟨s, G1, Q0, hs.ext e1, g1, q1, fun u G' v H' q' r' g' e' => k u G' v H' q' r' g' (e1.trans e')⟩
    · cases h
  | .tup es, X, sc, C, W, tk, ex, h => by
    unfold chkE at h
    split at h
    · refine PE.weak (pe_tup (sA es C W tk _ h)) fun σ H Q q => ?_
      obtain ⟨s, G, Q0, hs, hg, q, k⟩ := q
      refine ⟨s, G, _, hs, hg, q, fun us G1 vs H1 q1 r1 g1 e1 => ⟨by rw [← r1.length]; exact q1.1, fun p hp => ?_⟩⟩
      obtain ⟨e2, g2, r2⟩ := g1.newTup hp r1
      exact k _ G1 _ _ q1.2 r2 g2 (e1.trans e2)
    · cases h
  | .lst es, X, sc, C, W, tk, ex, h => by
    unfold chkE at h
    split at h
    · refine PE.weak (pe_lst (sA es C W tk _ h)) fun σ H Q q => ?_
      obtain ⟨s, G, Q0, hs, hg, q, k⟩ := q
      refine ⟨s, G, _, hs, hg, q, fun us G1 vs H1 q1 r1 g1 e1 => ⟨by rw [← r1.length]; exact q1.1, fun p hp => ?_⟩⟩
      obtain ⟨e2, g2⟩ := g1.newLst hp r1
      exact k _ _ _ _ (q1.2 p (g1.fresh hp)) (.ref p) g2 (e1.trans e2)
    · cases h
  | .call f es, X, sc, C, W, tk, ex, h => by
    unfold chkE at h
    split at h
    · simp only [Bool.and_eq_true, decide_eq_true_eq] at h
      obtain ⟨⟨h1, h2⟩, h3⟩ := h
      obtain ⟨⟨k0, fa, fd, ps, hm, kp, hr, hb, F⟩, db⟩ := C.fns f _ h1
      have st := chkA_star h3
      simp only [List.all_cons, Bool.and_eq_true] at st
      refine PE.weak (pe_callSD F hr (C.sco.gl _ h2) hm kp hb .nil (fun σ => passAt tk σ) (sA es C W tk _ h3) db (star_each st.1) (star_any st.2)) fun σ H Q q => ?_
      obtain ⟨s, G, Q0, hs, hg, q, k⟩ := q
      exact ⟨s, G, _, hs, hg, q, fun us G1 vs H1 q1 r1 g1 e1 => call_xr (hs.ext e1) g1 r1 e1 q1 k⟩
    · simp only [Bool.and_eq_true, decide_eq_true_eq] at h
      obtain ⟨⟨h1, h2⟩, h3⟩ := h
      obtain ⟨⟨k0, fa, fd, ps, hm, kp, hr, hb, F⟩, db⟩ := C.fns f _ h1
      cases es with
      | nil =>
        refine PE.weak (pe_callSD0 F hr (C.sco.gl _ h2) hm kp hb (fun σ => passAt tk σ) db) fun σ H Q q => ?_
        obtain ⟨s, G, Q0, hs, hg, q, k⟩ := q
        exact call_xr hs hg .nil .refl q k
      | cons _ _ => cases h3
    · cases h
  | .blt b es, X, sc, C, W, tk, ex, h => by
    unfold chkE at h
    split at h
    · simp only [Bool.and_eq_true, decide_eq_true_eq] at h
      obtain ⟨⟨h1, h2⟩, h3⟩ := h
      subst h1
      have st := chkA_star h3
      simp only [List.all_cons, Bool.and_eq_true] at st
      refine PE.weak (Blt.pe C.calm (C.sco.gl _ h2) (C.blt _ b.nm_mem) (sA es C W tk _ h3) (star_each st.1) (star_any st.2)) fun σ H Q q => ?_
      obtain ⟨s, G, Q0, hs, hg, q, k⟩ := q
      exact ⟨s, G, _, hs, hg, q, fun us G1 vs H1 q1 r1 g1 e1 => ⟨us, G1, Q0, r1, g1, q1, fun u G' v H' q' r' g' e' => k u G' v H' q' r' g' (e1.trans e')⟩⟩
    · cases h
  | .mth m o es, X, sc, C, W, tk, ex, h => by
    unfold chkE at h
    split at h
    · rename_i r nm ap y ys cp
      simp only [Bool.and_eq_true, decide_eq_true_eq] at h
      obtain ⟨⟨⟨⟨⟨h1, h2⟩, h3⟩, h4⟩, h5⟩, h6⟩ := h
      subst h1
      have st := chkA_star h6
      have st' := st
      simp only [List.all_cons, Bool.and_eq_true] at st
      refine PE.weak (pe_bm m.pa m.slot m.hty m.ok (sE o C W tk _ h5) (sA es C W tk _ h6) (plain_o h2) ?_ h3 (star_each st.1) (star_any st.2)) fun σ H Q q => ?_
      · rw [star_all st']
        show (true && true && decide (_ + 0 + 0 < 30)) = true
        simp only [Bool.and_self, Bool.true_and, decide_eq_true_eq]
        simp only [List.length_cons] at h4 ⊢
        omega
      · obtain ⟨s, G, Q0, hs, hg, q, k⟩ := q
        refine ⟨s, G, _, hs, hg, q, fun x G1 v H1 q1 r1 g1 e1 => ⟨mTy_of g1 r1 q1.1, s, G1, _, hs.ext e1, g1, q1.2, fun us G2 vs H2 q2 r2 g2 e2 => ?_⟩⟩
        exact ⟨x, us, G2, Q0, RU.ext e2 r1, r2, g2, q2, fun u G' v H' q' r' g' e' => k u G' v H' q' r' g' ((e1.trans e2).trans e')⟩
    · simp only [Bool.and_eq_true, decide_eq_true_eq] at h
      obtain ⟨⟨⟨⟨h1, h2⟩, h3⟩, h5⟩, h6⟩ := h
      subst h1
      cases es with
      | nil =>
        refine PE.weak (pe_bm0 m.pa m.slot m.hty m.ok (sE o C W tk _ h5) (plain_o h2) h3) fun σ H Q q => ?_
        obtain ⟨s, G, Q0, hs, hg, q, k⟩ := q
        refine ⟨s, G, _, hs, hg, q, fun x G1 v H1 q1 r1 g1 e1 => ⟨mTy_of g1 r1 q1.1, ?_⟩⟩
        exact ⟨x, [], G1, Q0, r1, .nil, g1, q1.2, fun u G' v H' q' r' g' e' => k u G' v H' q' r' g' (e1.trans e')⟩
      | cons _ _ => cases h6
    · cases h
  | .ix o i, X, sc, C, W, tk, ex, h => by
    unfold chkE at h
    split at h
    · simp only [Bool.and_eq_true] at h
      obtain ⟨⟨h1, h2⟩, h3⟩ := h
      exact PE.weak (pe_ix (ix_u (by have := C.hu; omega)) (sE o C W tk _ h2) (sE i C W tk _ h3) (plain_ix h1)) fun σ H Q => cOp
    · cases h
  | .sl o lo hi, X, sc, C, W, tk, ex, h => by
    unfold chkE at h
    split at h
    · simp only [Bool.and_eq_true] at h
      obtain ⟨⟨h1, h2⟩, h3⟩ := h
      refine PE.weak (pe_slice sl_u (sE o C W tk _ h1) (sO lo C W tk _ h2) (sO hi C W tk _ h3)) fun σ H Q q => ?_
      obtain ⟨s, G, Q0, hs, hg, q, k⟩ := q
      refine ⟨s, G, _, hs, hg, q, fun x G1 v H1 q1 r1 g1 e1 => ⟨s, G1, _, hs.ext e1, g1, q1, fun l G2 H2 q2 g2 e2 => ⟨s, G2, _, hs.ext (e1.trans e2), g2, q2, fun l2 G3 H3 q3 g3 e3 => ?_⟩⟩⟩
      exact ⟨x, G3, Q0, RU.ext (e2.trans e3) r1, g3, q3, fun u G' v H' q' r' g' e' => k u G' v H' q' r' g' (((e1.trans e2).trans e3).trans e')⟩
    · cases h
  | .lc elt tg it c, X, sc, C, W, tk, ex, h => by
    unfold chkE at h
    split at h
    · rename_i el t i ifs scope pos
      simp only [Bool.and_eq_true] at h
      obtain ⟨⟨⟨⟨⟨h1, h2⟩, h3⟩, h4⟩, h5⟩, h6⟩ := h
      have P := pe_lc (pos := pos) (g := cG X.K (slotsG tg) (trG tg)) (te := cE X.K (trE Γ (fun _ _ _ => False) elt)) (tt := cT X.K (trC Γ (fun _ _ _ => False) c)) C.calm C.nd (sI it C W tk t i h3) (blk_ok C h2) (fun s H Cc cl fp => sG (C.blk s H scope Cc cl fp) tg t h4)
        (fun s H Cc cl fp => sC c (C.blk s H scope Cc cl fp) (fun _ _ _ => False) (takes_false fun _ _ _ _ z => by obtain ⟨_, _, _, _, _, _, z⟩ := z; exact z) ifs h5)
        (fun s H Cc cl fp => sE elt (C.blk s H scope Cc cl fp) (fun _ _ _ => False) (takes_false fun _ _ _ _ z => by obtain ⟨_, _, _, _, _, _, z⟩ := z; exact z) el h6) (not_set h1)
      rw [own_snd] at P
      exact PE.weak P fun σ H Q => lc_conv
    · cases h
  | .stp o c, X, sc, C, W, tk, ex, h => by
    unfold chkE at h
    split at h
    · simp only [Bool.and_eq_true] at h
      exact PE.weak (pe_step (sE o C W tk _ h.1) (sE c C W tk _ h.2)) fun σ H Q q => cStp (ta := trE Γ W o) (tb := trE Γ W c) q
    · cases h
  | .lc2 elt tg it c tg1 it1 c1, X, sc, C, W, tk, ex, h => by
    unfold chkE at h
    split at h
    · rename_i el t i ifs t1 i1 ifs1 scope pos
      simp only [Bool.and_eq_true] at h
      obtain ⟨⟨⟨⟨⟨⟨⟨⟨⟨h1, h1'⟩, h2⟩, h3⟩, h4⟩, h5⟩, h6⟩, h7⟩, h8⟩, h9⟩ := h
      have tf : ∀ s H Cc cl fp, Takes (X.blk s H scope (compEnvC scope cl Cc X.env) fp) (cW X.K X.mg tb (fun _ _ _ => False)) := fun s H Cc cl fp => takes_false fun _ _ _ _ z => by obtain ⟨_, _, _, _, _, _, z⟩ := z; exact z
      have P := pe_lc2 (pos := pos) (vs1 := slotsG tg1) (g := cG X.K (slotsG tg) (trG tg)) (g1 := cG X.K (slotsG tg1) (trG tg1)) (te := cE X.K (trE Γ (fun _ _ _ => False) elt)) (tt := cT X.K (trC Γ (fun _ _ _ => False) c)) (tt1 := cT X.K (trC Γ (fun _ _ _ => False) c1)) (wi1 := cI X.K (trI Γ (fun _ _ _ => False) it1)) C.calm C.nd (sI it C W tk t i h3) (blk_ok C h2)
        (by rw [own_snd]; exact fun i hi => List.mem_append_right _ hi)
        (fun s H Cc cl fp => sG (C.blk s H scope Cc cl fp) tg t h4) (fun s H Cc cl fp => sC c (C.blk s H scope Cc cl fp) (fun _ _ _ => False) (tf s H Cc cl fp) ifs h5)
        (fun s H Cc cl fp => sI it1 (C.blk s H scope Cc cl fp) (fun _ _ _ => False) (tf s H Cc cl fp) t1 i1 h6)
        (fun s H Cc cl fp => sG (C.blk s H scope Cc cl fp) tg1 t1 h7) (fun s H Cc cl fp => sC c1 (C.blk s H scope Cc cl fp) (fun _ _ _ => False) (tf s H Cc cl fp) ifs1 h8)
        (fun s H Cc cl fp => sE elt (C.blk s H scope Cc cl fp) (fun _ _ _ => False) (tf s H Cc cl fp) el h9) (not_set h1) (fun env x => not_set (env := env) h1' x)
      rw [own_snd] at P
      exact PE.weak P fun σ H Q => lc2_conv
    · cases h
theorem sA : ∀ (es : Exs) {X : Cx} {sc : Scope}, CtxOk X sc tb Γ → ∀ (W : UW), Takes X (cW X.K X.mg tb W) → ∀ xs : List Expr, chkA X.N sc tb es xs = true → PA X xs (cA X.K (trA Γ W es))
  | .nil, X, sc, C, W, tk, [], h => by
    refine PA.weak pa_nil fun σ H Q q => ?_
    obtain ⟨s, G, Q0, hs, hg, q, k⟩ := q
    exact k _ G _ H q .nil hg .refl
  | .nil, X, sc, C, W, tk, _ :: _, h => by cases h
  | .cons _ _, X, sc, C, W, tk, [], h => by cases h
  | .cons e es, X, sc, C, W, tk, x :: xs, h => by
    simp only [chkA, Bool.and_eq_true] at h
    refine PA.weak (pa_cons (sE e C W tk _ h.1.2) (sA es C W tk _ h.2) (star_each h.1.1)) fun σ H Q q => ?_
    obtain ⟨s, G, Q0, hs, hg, q, k⟩ := q
    refine ⟨s, G, _, hs, hg, q, fun u G1 v H1 q1 r1 g1 e1 => ⟨s, G1, _, hs.ext e1, g1, q1, fun us G2 vs H2 q2 r2 g2 e2 => ?_⟩⟩
    exact k _ G2 _ H2 q2 (.cons (RU.ext e2 r1) r2) g2 (e1.trans e2)
theorem sO : ∀ (o : Exo) {X : Cx} {sc : Scope}, CtxOk X sc tb Γ → ∀ (W : UW), Takes X (cW X.K X.mg tb W) → ∀ x : Option Expr, chkO X.N sc tb o x = true → PO X x (cO X.K (trO Γ W o))
  | .no, X, sc, C, W, tk, none, h => by
    refine PO.weak po_none fun σ H Q q => ?_
    obtain ⟨s, G, Q0, hs, hg, q, k⟩ := q
    exact k _ G H q hg .refl
  | .no, X, sc, C, W, tk, some _, h => by cases h
  | .yes _, X, sc, C, W, tk, none, h => by cases h
  | .yes e, X, sc, C, W, tk, some x, h => by
    refine PO.weak (po_some (sE e C W tk x h)) fun σ H Q q => ?_
    obtain ⟨s, G, Q0, hs, hg, q, k⟩ := q
    refine ⟨s, G, _, hs, hg, q, fun u G1 v H1 q1 r1 g1 e1 => ?_⟩
    split at q1
    · cases r1
      exact ⟨_, rfl, k _ G1 H1 q1 g1 e1⟩
    · exact q1.elim
theorem sC : ∀ (o : Exo) {X : Cx} {sc : Scope}, CtxOk X sc tb Γ → ∀ (W : UW), Takes X (cW X.K X.mg tb W) → ∀ x : List Expr, chkC X.N sc tb o x = true → PTs X x (cT X.K (trC Γ W o))
  | .no, X, sc, C, W, tk, [], h => by
    refine PTs.weak pts_nil fun σ H Q q => ?_
    obtain ⟨s, G, Q0, hs, hg, q, k⟩ := q
    exact k _ G H q hg .refl
  | .no, X, sc, C, W, tk, _ :: _, h => by cases h
  | .yes _, X, sc, C, W, tk, [], h => by cases h
  | .yes e, X, sc, C, W, tk, [x], h => pts_one (sT e C W tk x h)
  | .yes _, X, sc, C, W, tk, _ :: _ :: _, h => by cases h
theorem sT : ∀ (e : Ex) {X : Cx} {sc : Scope}, CtxOk X sc tb Γ → ∀ (W : UW), Takes X (cW X.K X.mg tb W) → ∀ ex : Expr, chkE X.N sc tb e ex = true → PT X ex (cT X.K (trT Γ W e))
  | .not a, X, sc, C, W, tk, ex, h => by
    unfold chkE at h
    split at h
    · refine PT.weak (pt_not (sT a C W tk _ h)) fun σ H Q q => ?_
      obtain ⟨s, G, Q0, hs, hg, q, k⟩ := q
      exact ⟨s, G, _, hs, hg, q, fun b G1 H1 q1 g1 e1 => k _ G1 H1 q1 g1 e1⟩
    · cases h
  | .and a b, X, sc, C, W, tk, ex, h => by
    unfold chkE at h
    split at h
    · rename_i x y rest pos
      simp only [Bool.and_eq_true] at h
      obtain ⟨h1, h2⟩ := h
      have hb : PW X (.BoolOp .And (y :: rest) pos) (cT X.K (trT Γ W b)) := by
        split at h2
        · exact pw_and1 (sT b C W tk _ h2)
        · exact pw_of (sT b C W tk _ h2)
      refine PT.weak (pw_and (sT a C W tk _ h1) hb).pt fun σ H Q q => ?_
      obtain ⟨s, G, Q0, hs, hg, q, k⟩ := q
      refine ⟨s, G, _, hs, hg, q, fun kk G1 H1 q1 g1 e1 => ?_⟩
      cases kk with
      | false => simp only [Bool.false_eq_true, if_false] at q1 ⊢; exact k _ G1 H1 q1 g1 e1
      | true =>
        simp only [if_true] at q1 ⊢
        exact ⟨s, G1, Q0, hs.ext e1, g1, q1, fun u G' H' q' g' e' => k u G' H' q' g' (e1.trans e')⟩
    · cases h
  | .or a b, X, sc, C, W, tk, ex, h => by
    unfold chkE at h
    split at h
    · rename_i x y rest pos
      simp only [Bool.and_eq_true] at h
      obtain ⟨h1, h2⟩ := h
      have hb : PW X (.BoolOp .Or (y :: rest) pos) (cT X.K (trT Γ W b)) := by
        split at h2
        · exact pw_or1 (sT b C W tk _ h2)
        · exact pw_of (sT b C W tk _ h2)
      refine PT.weak (pw_or (sT a C W tk _ h1) hb).pt fun σ H Q q => ?_
      obtain ⟨s, G, Q0, hs, hg, q, k⟩ := q
      refine ⟨s, G, _, hs, hg, q, fun kk G1 H1 q1 g1 e1 => ?_⟩
      cases kk with
      | true => simp only [if_true] at q1 ⊢; exact k _ G1 H1 q1 g1 e1
      | false =>
        simp only [Bool.false_eq_true, if_false] at q1 ⊢
        exact ⟨s, G1, Q0, hs.ext e1, g1, q1, fun u G' H' q' g' e' => k u G' H' q' g' (e1.trans e')⟩
    · cases h
  | .cmp op a b, X, sc, C, W, tk, ex, h => by
    unfold chkE at h
    split at h
    · simp only [Bool.and_eq_true, decide_eq_true_eq] at h
      obtain ⟨⟨⟨h1, h2⟩, h3⟩, h4⟩ := h
      subst h1
      refine PT.weak (pt_cmpR (cmp_any C.hu op) (sE a C W tk _ h3) (sE b C W tk _ h4) (nomark' h2)) fun σ H Q q => ?_
      obtain ⟨s, G, Q0, hs, hg, q, k⟩ := q
      refine ⟨s, G, _, hs, hg, q, fun x G1 v H1 q1 r1 g1 e1 => ⟨s, G1, _, hs.ext e1, g1, q1, fun y G2 v2 H2 q2 r2 g2 e2 => ?_⟩⟩
      refine ⟨x, y, G2, _, RU.ext e2 r1, r2, g2, q2, fun z G3 v3 H3 q3 r3 g3 e3 => ?_⟩
      split at q3
      · cases r3
        exact ⟨_, rfl, k _ G3 H3 q3 g3 ((e1.trans e2).trans e3)⟩
      · exact q3.elim
    · cases h
  | .chain o1 o2 a b c, X, sc, C, W, tk, ex, h => by
    unfold chkE at h
    split at h
    · simp only [Bool.and_eq_true, decide_eq_true_eq] at h
      obtain ⟨⟨⟨⟨⟨⟨h1, h2⟩, h3⟩, h4⟩, h5⟩, h6⟩, h7⟩ := h
      subst h1 h2
      exact PT.weak (pt_chain (cmp_any C.hu o1) (cmp_any C.hu o2) (sE a C W tk _ h5) (sE b C W tk _ h6) (sE c C W tk _ h7) (last2 h4)) fun σ H Q => cmp_chainT
    · cases h
  | .ife _ _ _, X, sc, C, W, tk, ex, h => ⟨fun pins s σ H Q I q => by
    obtain ⟨_, _, _, _, _, q, _⟩ := q
    exact q.elim⟩
  | .var i, X, sc, C, W, tk, ex, h => pt_plain (by unfold chkE at h; split at h; rfl; cases h) (sE (.var i) C W tk ex h)
  | .int i, X, sc, C, W, tk, ex, h => pt_plain (by unfold chkE at h; split at h; rfl; cases h) (sE (.int i) C W tk ex h)
  | .bl i, X, sc, C, W, tk, ex, h => pt_plain (by unfold chkE at h; split at h; rfl; cases h) (sE (.bl i) C W tk ex h)
  | .non, X, sc, C, W, tk, ex, h => pt_plain (by unfold chkE at h; split at h; rfl; cases h) (sE .non C W tk ex h)
  | .str i, X, sc, C, W, tk, ex, h => pt_plain (by unfold chkE at h; split at h; rfl; cases h) (sE (.str i) C W tk ex h)
  | .gl i, X, sc, C, W, tk, ex, h => pt_plain (by unfold chkE at h; split at h; rfl; cases h) (sE (.gl i) C W tk ex h)
  | .ty i, X, sc, C, W, tk, ex, h => pt_plain (by unfold chkE at h; split at h; rfl; cases h) (sE (.ty i) C W tk ex h)
  | .bin op a b, X, sc, C, W, tk, ex, h => pt_plain (by unfold chkE at h; split at h; rfl; cases h) (sE (.bin op a b) C W tk ex h)
  | .neg a, X, sc, C, W, tk, ex, h => pt_plain (by unfold chkE at h; split at h; rfl; cases h) (sE (.neg a) C W tk ex h)
  | .tup es, X, sc, C, W, tk, ex, h => pt_plain (by unfold chkE at h; split at h; rfl; cases h) (sE (.tup es) C W tk ex h)
  | .lst es, X, sc, C, W, tk, ex, h => pt_plain (by unfold chkE at h; split at h; rfl; cases h) (sE (.lst es) C W tk ex h)
  | .call f es, X, sc, C, W, tk, ex, h => pt_plain (by unfold chkE at h; split at h; rfl; rfl; cases h) (sE (.call f es) C W tk ex h)
  | .blt f es, X, sc, C, W, tk, ex, h => pt_plain (by unfold chkE at h; split at h; rfl; cases h) (sE (.blt f es) C W tk ex h)
  | .mth m o es, X, sc, C, W, tk, ex, h => pt_plain (by unfold chkE at h; split at h; rfl; rfl; cases h) (sE (.mth m o es) C W tk ex h)
  | .ix o i, X, sc, C, W, tk, ex, h => pt_plain (by unfold chkE at h; split at h; rfl; cases h) (sE (.ix o i) C W tk ex h)
  | .sl o lo hi, X, sc, C, W, tk, ex, h => pt_plain (by unfold chkE at h; split at h; rfl; cases h) (sE (.sl o lo hi) C W tk ex h)
  | .stp o c, X, sc, C, W, tk, ex, h => pt_plain (by unfold chkE at h; split at h; rfl; cases h) (sE (.stp o c) C W tk ex h)
  | .lc2 elt tg it c tg1 it1 c1, X, sc, C, W, tk, ex, h => pt_plain (by unfold chkE at h; split at h; rfl; cases h) (sE (.lc2 elt tg it c tg1 it1 c1) C W tk ex h)
  | .lc elt tg it c, X, sc, C, W, tk, ex, h => pt_plain (by unfold chkE at h; split at h; rfl; cases h) (sE (.lc elt tg it c) C W tk ex h)
theorem sI : ∀ (it : Ito) {X : Cx} {sc : Scope}, CtxOk X sc tb Γ → ∀ (W : UW), Takes X (cW X.K X.mg tb W) → ∀ t ex : Expr, chkI X.N sc tb it t ex = true → PI X t ex (cI X.K (trI Γ W it))
  | .rng1 a, X, sc, C, W, tk, t, ex, h => by
    unfold chkI at h
    split at h
    · simp only [Bool.and_eq_true, decide_eq_true_eq] at h
      obtain ⟨⟨⟨h1, h2⟩, h3⟩, h4⟩ := h
      subst h1
      refine PI.weak (pi_range1 (C.sco.gl _ h2) (C.blt _ (by decide)) (one_a (sE a C W tk _ h4) h3) (star_each h3)) fun σ H R q => ?_
      obtain ⟨s, G, R0, hs, hg, q, k⟩ := q
      refine ⟨s, G, fun us G1 => match us with
        | [x] => (match x with
          | .int j => small62 j ∧ R0 [] (rangeU 0 1 j.toNat) G1
          | _ => False)
        | _ => False, hs, hg, q, fun us G1 vs H1 q1 r1 g1 e1 => ?_⟩
      dsimp only at q1
      split at q1
      · split at q1
        · obtain ⟨b, q1⟩ := q1
          cases r1 with
          | cons r rr =>
            cases r; cases rr
            unfold small62 at b
            exact ⟨_, rfl, by omega, by omega, k _ _ G1 H1 _ q1 g1 e1 (it_range1 _ _)⟩
        · exact q1.elim
      · exact q1.elim
    · cases h
  | .rng2 a b, X, sc, C, W, tk, t, ex, h => by
    unfold chkI at h
    split at h
    · simp only [Bool.and_eq_true, decide_eq_true_eq] at h
      obtain ⟨⟨⟨⟨⟨h1, h2⟩, h3⟩, h4⟩, h5⟩, h6⟩ := h
      subst h1
      refine PI.weak (pi_range2 (C.sco.gl _ h2) (C.blt _ (by decide)) (two_a (sE a C W tk _ h5) (sE b C W tk _ h6) h3 h4) (by rw [star_each h3, star_each h4]; rfl) (by rw [star_each h4]; rfl)) fun σ H R q => ?_
      obtain ⟨s, G, R0, hs, hg, q, k⟩ := q
      refine ⟨s, G, fun us G2 => match us with
        | [x, y] => (match x, y with
          | .int i, .int j => small62 i ∧ small62 j ∧ R0 [] (rangeU i 1 (j - i).toNat) G2
          | _, _ => False)
        | _ => False, hs, hg, q, fun us G1 vs H1 q1 r1 g1 e1 => ?_⟩
      dsimp only at q1
      split at q1
      · split at q1
        · obtain ⟨b, b2, q1⟩ := q1
          cases r1 with
          | cons r rr =>
            cases rr with
            | cons r2 rr =>
              cases r; cases r2; cases rr
              unfold small62 at b b2
              exact ⟨_, _, rfl, by omega, k _ _ G1 H1 _ q1 g1 e1 (it_range1 _ _)⟩
        · exact q1.elim
      · exact q1.elim
    · cases h
  | .rng3 a b c, X, sc, C, W, tk, t, ex, h => by
    unfold chkI at h
    split at h
    · simp only [Bool.and_eq_true, decide_eq_true_eq] at h
      obtain ⟨⟨⟨⟨⟨⟨⟨h1, h2⟩, h3⟩, h4⟩, h4'⟩, h5⟩, h6⟩, h7⟩ := h
      subst h1
      refine PI.weak (pi_range3 (C.sco.gl _ h2) (C.blt _ (by decide)) (three_a (sE a C W tk _ h5) (sE b C W tk _ h6) (sE c C W tk _ h7) h3 h4 h4') (star_each h3) (star_any (by simp [h4, h4']))) fun σ H R q => ?_
      obtain ⟨s, G, R0, hs, hg, q, k⟩ := q
      refine ⟨s, G, fun us G2 => match us with
        | [x, y, z] => (match x, y, z with
          | .int i, .int j, .int c => small62 i ∧ small62 j ∧ 0 < c ∧ c < 1073741824 ∧ R0 [] (rangeU i c (rlen i j c)) G2
          | _, _, _ => False)
        | _ => False, hs, hg, q, fun us G1 vs H1 q1 r1 g1 e1 => ?_⟩
      dsimp only at q1
      split at q1
      · split at q1
        · obtain ⟨b, b2, b3, b4, q1⟩ := q1
          cases r1 with
          | cons r rr =>
            cases rr with
            | cons r2 rr =>
              cases rr with
              | cons r3 rr =>
                cases r; cases r2; cases r3; cases rr
                exact ⟨_, _, _, _, rfl, rg_ok b b2 b3 b4, k _ _ G1 H1 _ q1 g1 e1 (it_range _ _ _)⟩
        · exact q1.elim
      · exact q1.elim
    · cases h
  | .val e, X, sc, C, W, tk, t, ex, h => val_ok (sE e C W tk ex h)
  | .enum e, X, sc, C, W, tk, t, ex, h => by
    unfold chkI at h
    split at h
    · simp only [Bool.and_eq_true, decide_eq_true_eq] at h
      obtain ⟨⟨⟨h1, h2⟩, h3⟩, h4⟩ := h
      subst h1
      refine PI.weak (pi_enumK (C.sco.gl _ h2) (C.blt _ (by decide)) (one_a (sE e C W tk _ h4) h3) (star_each h3)) fun σ H R q => ?_
      obtain ⟨s, G, R0, hs, hg, q, k⟩ := q
      refine ⟨s, G, fun us G1 => match us with
        | [x] => seqOf x G1 fun ds us => R0 ds (enumU 0 us) G1
        | _ => False, hs, hg, q, fun us G1 vs H1 q1 r1 g1 e1 => ?_⟩
      dsimp only at q1
      split at q1
      · cases r1 with
        | cons r rr =>
          cases rr
          obtain ⟨kk, a, xs, ds, us, rfl, hq, q2, dk, st⟩ := seq_of g1 r q1
          exact ⟨kk, a, xs, rfl, hq, k _ _ _ _ _ q2 g1 e1 (it_enum st)⟩
      · exact q1.elim
    · cases h
  | .zip a b, X, sc, C, W, tk, t, ex, h => by
    unfold chkI at h
    split at h
    · simp only [Bool.and_eq_true, decide_eq_true_eq] at h
      obtain ⟨⟨⟨⟨⟨h1, h2⟩, h3⟩, h4⟩, h5⟩, h6⟩ := h
      subst h1
      refine PI.weak (pi_zipK (C.sco.gl _ h2) (C.blt _ (by decide)) (two_a (sE a C W tk _ h5) (sE b C W tk _ h6) h3 h4) (star_each h3) (star_any (by simp [h4]))) fun σ H R q => ?_
      obtain ⟨s, G, R0, hs, hg, q, k⟩ := q
      refine ⟨s, G, fun us G2 => match us with
        | [x, y] => seqOf x G2 fun ds us => seqOf y G2 fun es ws => R0 (ds ++ es) (zipU us ws) G2
        | _ => False, hs, hg, q, fun us G1 vs H1 q1 r1 g1 e1 => ?_⟩
      dsimp only at q1
      split at q1
      · cases r1 with
        | cons r rr =>
          cases rr with
          | cons r2 rr =>
            cases rr
            obtain ⟨k1, a, xs, ds, us, rfl, hq, q2, dk, st⟩ := seq_of g1 r q1
            obtain ⟨k2, b, ys, es, ws, rfl, hq2, q3, dk2, st2⟩ := seq_of g1 r2 q2
            exact ⟨k1, k2, a, b, xs, ys, rfl, hq, hq2, k _ _ _ _ _ q3 g1 e1 (it_zip st st2)⟩
      · exact q1.elim
    · cases h
end
end
end UL
set_option Elab.async false
set_option linter.all false
set_option autoImplicit false
set_option maxRecDepth 100000
set_option maxHeartbeats 4000000
/-! UL12: trees of one's own for statements; what they ask; how they fit the text. -/
namespace UL
open PySem PySem.Spec L2
mutual
inductive Hx
  | fld (f : Str) | int (i : Int) | str (x : Str) | bl (b : Bool) | non | tup (es : Hxs) | lst (es : Hxs)
inductive Hxs
  | nil
  | cons (e : Hx) (es : Hxs)
end
mutual
inductive Sm
  | asg (t : Tg) (e : Ex) | par2 (i j : Nat) (es : Exs) | par3 (i j l : Nat) (es : Exs) | setLc (i : Nat) (elt : Ex) (tg : Tg) (it : Ito) (c : Exo)
  | sub (o i e : Ex) | aug (i : Nat) (op : Operator) (e : Ex) | augS (o i : Ex) (op : Operator) (e : Ex)
  | expr (e : Ex) | doc | ret (e : Ex) | retN | ife (c : Ex) (a b : Sms) | whl (c : Ex) (b : Sms) | for_ (t : Tg) (it : Ito) (b : Sms)
  | brk | cont | pass | raise (k : Nat) (es : Exs) | tryAs (b : Sms) (k i : Nat) (h : Hx)
inductive Sms
  | nil
  | cons (s : Sm) (ss : Sms)
end
structure UE where
  nx : USt → UH → Prop
  rt : UK
  bk : USt → UH → Prop
  ct : USt → UH → Prop
  ex : UW
abbrev UTS := UE → USt → UH → Prop
/-- the names of a class's fields, its kin -/
structure Tab2 extends Tab where
  sub : Nat → Nat → Bool

mutual
def trH : Hx → List (Str × U) → UH → UK → Prop
  | .fld f => fun fs G Q => match fs.lookup f with
    | some u => Q u G
    | none => False
  | .int i => fun _ G Q => Q (.int i) G
  | .str i => fun _ G Q => Q (.str i) G
  | .bl i => fun _ G Q => Q (.bl i) G
  | .non => fun _ G Q => Q .non G
  | .tup es => fun fs G Q => trHs es fs G fun us G1 => us.length ≤ sizeLine ∧ Q (.tup us) G1
  | .lst es => fun fs G Q => trHs es fs G fun us G1 => us.length ≤ sizeLine ∧ ∀ p, G1 p = none → Q (.ref p) (up G1 p (.lst us))
def trHs : Hxs → List (Str × U) → UH → (List U → UH → Prop) → Prop
  | .nil => fun _ G Q => Q [] G
  | .cons e es => fun fs G Q => trH e fs G fun u G1 => trHs es fs G1 fun us G2 => Q (u :: us) G2
end
def putU (kvs : List (Key × U)) (k : Key) (v : U) : List (Key × U) :=
  if (kvs.any fun kv => decide (kv.1 = k)) = true then kvs.map (fun kv => if kv.1 = k then (kv.1, v) else kv) else kvs ++ [(k, v)]
/-- o[i] = v -/
def uSet (o i v : U) (G : UH) (Q : UH → Prop) : Prop := match o with
  | .ref a => (match G a with
    | some (.lst us) => (match i with
      | .int k => (match ixN us.length k with
        | some j => Q (up G a (.lst (us.set j v)))
        | none => False)
      | _ => False)
    | some (.dK kvs) => (match keyOf i with
      | some k => kvs.length < sizeLine ∧ Q (up G a (.dK (putU kvs k v)))
      | none => False)
    | _ => False)
  | _ => False
def uGet : UOp := fun x y G Q => match x with
  | .ref a => uIx (.ref a) y G Q
  | _ => False
/-- op= by values -/
def uIp : Operator → UOp
  | .Add => fun x y G Q => match x, y with
    | .int i, .int j => Q (.int (i + j)) G
    | _, _ => False
  | .Sub => fun x y G Q => match x, y with
    | .int i, .int j => Q (.int (i - j)) G
    | _, _ => False
  | _ => fun _ _ _ _ => False
/-- a loop over what is told -/
def forU (ds : Deps) (g : U → USt → UH → (USt → UH → Prop) → Prop) (tb : UTS) (D : UE) : List U → USt → UH → Prop
  | [], s, G => depsOk G ds ∧ D.nx s G
  | y :: ys, s, G => depsOk G ds ∧ g y s G fun s1 G1 => tb ⟨fun s2 G2 => ∃ G3, Le G3 G2 ∧ forU ds g tb D ys s2 G3, D.rt, D.nx, fun s2 G2 => ∃ G3, Le G3 G2 ∧ forU ds g tb D ys s2 G3, D.ex⟩ s1 G1
def whlU (c : UTT) (tb : UTS) (D : UE) (s : USt) (G : UH) : Prop := ∃ Iv : Nat → USt → UH → Prop, (∃ m, Iv m s G) ∧ ∀ m s1 G1, Iv m s1 G1 → c s1 G1 fun b G2 => if b = true then
  tb ⟨fun s2 G3 => ∃ m' G4, m' < m ∧ Le G4 G3 ∧ Iv m' s2 G4, D.rt, D.nx, fun s2 G3 => ∃ m' G4, m' < m ∧ Le G4 G3 ∧ Iv m' s2 G4, D.ex⟩ s1 G2 else D.nx s1 G2
mutual
def trS (tb : Tab2) (Γ : Gam) : Sm → UTS
  | .asg t e => fun D s G => trE Γ D.ex e s G fun u G1 => trG t u s G1 D.nx
  | .par2 i j es => fun D s G => trA Γ D.ex es s G fun us G1 => match us with
    | [u, v] => D.nx (setS (setS s i (some u)) j (some v)) G1
    | _ => False
  | .par3 i j l es => fun D s G => trA Γ D.ex es s G fun us G1 => match us with
    | [u, v, w] => D.nx (setS (setS (setS s i (some u)) j (some v)) l (some w)) G1
    | _ => False
  | .setLc i elt tg it c => fun D s G => trE Γ D.ex (.lc elt tg it c) s G fun u G1 => D.nx (setS s i (some u)) G1
  | .sub o i e => fun D s G => trE Γ D.ex e s G fun v G1 => trE Γ D.ex o s G1 fun x G2 => trE Γ D.ex i s G2 fun y G3 => uSet x y v G3 fun G4 => D.nx s G4
  | .aug i op e => fun D s G => match getS s i with
    | some x => trE Γ D.ex e s G fun y G1 => uIp op x y G1 fun z G2 => D.nx (setS s i (some z)) G2
    | none => False
  | .augS o i op e => fun D s G => trE Γ D.ex o s G fun x G1 => trE Γ D.ex i s G1 fun y G2 => uGet x y G2 fun z G3 => trE Γ D.ex e s G3 fun v G4 => uIp op z v G4 fun w G5 => uSet x y w G5 fun G6 => D.nx s G6
  | .expr e => fun D s G => trE Γ D.ex e s G fun _ G1 => D.nx s G1
  | .doc => fun D s G => D.nx s G
  | .ret e => fun D s G => trE Γ D.ex e s G D.rt
  | .retN => fun D _ G => D.rt .non G
  | .ife c a b => fun D s G => trT Γ D.ex c s G fun k G1 => if k = true then trSs tb Γ a D s G1 else trSs tb Γ b D s G1
  | .whl c b => fun D s G => whlU (trT Γ D.ex c) (trSs tb Γ b) D s G
  | .for_ t it b => fun D s G => trI Γ D.ex it s G fun ds ys G1 => forU ds (trG t) (trSs tb Γ b) D ys s G1
  | .brk => fun D s G => D.bk s G
  | .cont => fun D s G => D.ct s G
  | .pass => fun D s G => D.nx s G
  | .raise k es => fun D s G => trA Γ D.ex es s G fun us G1 => ((tb.xcs[k]?).map fun p => p.2.length) = some us.length ∧ D.ex (k, us.reverse) s G1
  | .tryAs b k i h => fun D s G => trSs tb Γ b { D with ex := fun xn s1 G1 => if tb.sub xn.1 k = true then ∃ x fs, tb.xcs[xn.1]? = some (x, fs) ∧ trH h (fs.zip xn.2) G1 D.rt else D.ex xn s1 G1 } s G
def trSs (tb : Tab2) (Γ : Gam) : Sms → UTS
  | .nil => fun D s G => D.nx s G
  | .cons st ss => fun D s G => trS tb Γ st { D with nx := fun s1 G1 => trSs tb Γ ss D s1 G1 } s G
end

/-! ### fits the text -/
def starLess : Expr → Bool
  | .Starred _ _ => false
  | _ => true
def swpF (sc : Scope) (tg e : Expr) : Bool := match e with
  | .ListComp _ _ s p => (match tg with
    | .Name t tp => decide (sc.names.lookup t = some .local) && (tp.line == p.line) && !(s.names.any fun (n, k) => n == t && (k == .local || k == .cell))
    | _ => false)
  | .SetComp _ _ _ _ => true
  | .DictComp _ _ _ _ _ => true
  | _ => false
def exprLc : Expr → Bool
  | .ListComp _ _ _ _ => true
  | .SetComp _ _ _ _ => true
  | .DictComp _ _ _ _ _ => true
  | _ => false
/-- the names that are stored the other way round -/
def swNames (sc : Scope) (ts : List Expr) : List Str :=
  let line := (ts.head?.map (·.pos.line)).getD 0
  ts.filterMap fun
    | .Name id pos => if sc.names.lookup id == some .local && pos.line == line then some id else none
    | _ => none
def swNo (sc : Scope) (tg e : Expr) : Bool := match tg, e with
  | .Tuple ts _ _, .Tuple vs _ _ => !(ts.length == 2 || ts.length == 3) || vs.length != ts.length || (swNames sc ts).length != ts.length || (swNames sc ts).eraseDups.length != (swNames sc ts).length || vs.all (foldedForSure 8)
  | .List _ _, .Tuple _ _ _ => false
  | _, _ => true
mutual
def chkH (n : Str) : Hx → Expr → Bool
  | .fld f => fun ex => match ex with
    | .Attribute (.Name x _) g _ => decide (x = n) && decide (f = g)
    | _ => false
  | .int i => fun ex => match ex with
    | .Constant (.int j) _ _ => decide (i = j)
    | .UnaryOp .USub (.Constant (.int j) _ _) _ => decide (i = -j)
    | _ => false
  | .str i => fun ex => match ex with
    | .Constant (.str j) _ _ => decide (i = j)
    | _ => false
  | .bl i => fun ex => match ex with
    | .Constant (.bool j) _ _ => decide (i = j)
    | _ => false
  | .non => fun ex => match ex with
    | .Constant .none _ _ => true
    | _ => false
  | .tup es => fun ex => match ex with
    | .Tuple xs _ _ => chkHs n es xs
    | _ => false
  | .lst es => fun ex => match ex with
    | .List xs _ => chkHs n es xs
    | _ => false
def chkHs (n : Str) : Hxs → List Expr → Bool
  | .nil => fun xs => match xs with
    | [] => true
    | _ => false
  | .cons e es => fun xs => match xs with
    | x :: xs => notStar x && chkH n e x && chkHs n es xs
    | _ => false
end
def locOnly (N : List Str) (sc : Scope) (i : Nat) (x : Str) : Bool := decide (N[i]? = some x) && decide (sc.names.lookup x = some .local)
mutual
def chkS (N : List Str) (sc : Scope) (tb : Tab2) (nt : Bool) : Sm → Stmt → Bool
  | .asg t e => fun st => match st with
    | .Assign [tg] v _ => notStar tg && !(swpF sc tg v) && swNo sc tg v && chkG N sc t tg && chkE N sc tb.toTab e v
    | _ => false
  | .par2 i j es => fun st => match st with
    | .Assign [.Tuple [.Name x px, .Name y py] _ _] (.Tuple [a, b] _ _) _ => locOnly N sc i x && locOnly N sc j y && decide (i ≠ j) && decide (x ≠ y) && (py.line == px.line) && notStar a && notStar b && !([a, b].all (foldedForSure 8)) && !([a, b].all (constantsAlone 8)) && chkA N sc tb.toTab es [a, b]
    | _ => false
  | .par3 i j l es => fun st => match st with
    | .Assign [.Tuple [.Name x px, .Name y py, .Name z pz] _ _] (.Tuple [a, b, c] _ _) _ => locOnly N sc i x && locOnly N sc j y && locOnly N sc l z && decide (i ≠ j) && decide (i ≠ l) && decide (j ≠ l) && decide (x ≠ y) && decide (x ≠ z) && decide (y ≠ z) &&
       (py.line == px.line) && (pz.line == px.line) && notStar a && notStar b && notStar c && !([a, b, c].all (foldedForSure 8)) && !([a, b, c].all (constantsAlone 8)) && chkA N sc tb.toTab es [a, b, c]
    | _ => false
  | .setLc i elt tg it c => fun st => match st with
    | .Assign [.Name y py] (.ListComp el [⟨t, ii, ifs, 0⟩] scope pos) _ => locOnly N sc i y && (py.line == pos.line) && !(scope.names.any fun (n, k) => n == y && (k == .local || k == .cell)) && chkE N sc tb.toTab (.lc elt tg it c) (.ListComp el [⟨t, ii, ifs, 0⟩] scope pos)
    | _ => false
  | .sub o i e => fun st => match st with
    | .Assign [.Subscript x y p] v _ => notSl y && chkE N sc tb.toTab o x && chkE N sc tb.toTab i y && chkE N sc tb.toTab e v && !(swpF sc (.Subscript x y p) v)
    | _ => false
  | .aug i op e => fun st => match st with
    | .AugAssign (.Name x _) op' v _ => decide (op = op') && decide (N[i]? = some x) && locB sc x && chkE N sc tb.toTab e v
    | _ => false
  | .augS o i op e => fun st => match st with
    | .AugAssign (.Subscript x y _) op' v _ => decide (op = op') && notSl y && chkE N sc tb.toTab o x && chkE N sc tb.toTab i y && chkE N sc tb.toTab e v
    | _ => false
  | .expr e => fun st => match st with
    | .Expr v _ => !(exprLc v) && chkE N sc tb.toTab e v
    | _ => false
  | .doc => fun st => match st with
    | .Expr (.Constant (.str _) _ _) _ => true
    | _ => false
  | .ret e => fun st => match st with
    | .Return (some v) _ => chkE N sc tb.toTab e v
    | _ => false
  | .retN => fun st => match st with
    | .Return none _ => true
    | _ => false
  | .ife c a b => fun st => match st with
    | .If t x y _ => chkE N sc tb.toTab c t && chkSs N sc tb nt a x && chkSs N sc tb nt b y
    | _ => false
  | .whl c b => fun st => match st with
    | .While t x [] _ => chkE N sc tb.toTab c t && chkSs N sc tb nt b x
    | _ => false
  | .for_ t it b => fun st => match st with
    | .For tg i x [] _ => notSet i && chkG N sc t tg && chkI N sc tb.toTab it tg i && chkSs N sc tb true b x
    | _ => false
  | .brk => fun st => match st with
    | .Break _ => true
    | _ => false
  | .cont => fun st => match st with
    | .Continue _ => true
    | _ => false
  | .pass => fun st => match st with
    | .Pass _ => true
    | _ => false
  | .raise k es => fun st => match st with
    | .Raise (some (.Call (.Name x _) (y :: ys) [] _)) none _ => decide ((tb.xcs[k]?).map (·.1) = some x) && glB sc x && chkA N sc tb.toTab es (y :: ys)
    | _ => false
  | .tryAs b k i h => fun st => match st with
    | .Try body [.ExceptHandler (some (.Name x _)) (some n) [.Return (some v) _] _] [] [] _ => !nt && decide ((tb.xcs[k]?).map (·.1) = some x) && glB sc x && !(x == ("__debug__" : Str)) && locOnly N sc i n && !(n == ("__debug__" : Str)) && !(n == ("__classdict__" : Str)) && chkSs N sc tb nt b body && chkH n h v
    | _ => false
def chkSs (N : List Str) (sc : Scope) (tb : Tab2) (nt : Bool) : Sms → List Stmt → Bool
  | .nil => fun xs => match xs with
    | [] => true
    | _ => false
  | .cons s ss => fun xs => match xs with
    | x :: xs => chkS N sc tb nt s x && chkSs N sc tb nt ss xs
    | _ => false
end
/-! ### stores the other way round -/
section
variable {env : Env} {sc : Scope}
theorem sw_not {tg e : Expr} {l : Nat} (hs : env.scope = sc) (hk : sc.kind = .function) (h : swpF sc tg e = false) : swapsWithSole [tg] e l env = pure false := by
  show swapsWith e (some tg) l env = pure false
  cases e with
  | ListComp elt gs s p =>
    unfold swpF at h
    cases tg with
    | Name t tp =>
      have hb : env.blockKind = .function := by unfold Env.blockKind; rw [hs, hk]; rfl
      simp only [Bool.and_eq_false_iff, decide_eq_false_iff_not] at h
      unfold swapsWith
      show (pure (env.blockKind == .function && env.kindOf t == some .local && tp.line == p.line && !(s.names.any fun (n, k) => n == t && (k == .local || k == .cell))) : Sem Bool) = pure false
      congr 1
      have kd : env.kindOf t = sc.names.lookup t := by unfold Env.kindOf; rw [hs]
      rcases h with (h | h) | h
      · have : (env.kindOf t == some .local) = false := by rw [kd]; simpa using h
        rw [this]; simp
      · rw [h]; simp
      · rw [h]; simp
    | _ => rfl
  | SetComp => cases h
  | DictComp => cases h
  | _ => rfl
theorem sw_none {e : Expr} {l : Nat} (h : exprLc e = false) : swapsWith e none l env = pure false := by
  cases e <;> first | rfl | cases h
theorem swT_none {ts vs : List Expr} {k k2 : Nat} {p p2 : Pos} (hb : env.blockKind = .function) (h : swNo env.scope (.Tuple ts k p) (.Tuple vs k2 p2) = true) : swappedStores [.Tuple ts k p] (.Tuple vs k2 p2) env = pure none := by
  unfold swNo at h
  simp only [Bool.or_eq_true, Bool.not_eq_true'] at h
  unfold swappedStores
  dsimp only
  split
  · rfl
  · rename_i c1
    split
    · rfl
    · split
      · rfl
      · rename_i c3
        have c3' : ¬ (((swNames env.scope ts).length != ts.length || (swNames env.scope ts).eraseDups.length != (swNames env.scope ts).length) = true) := c3
        have c4 : vs.all (foldedForSure 8) = true := by
          simp only [Bool.or_eq_true, Bool.not_eq_true', not_or] at c1 c3'
          rcases h with (((h | h) | h) | h) | h
          · exact absurd h c1.1.1
          · exact absurd h c1.1.2
          · exact absurd h c3'.1
          · exact absurd h c3'.2
          · exact h
        rw [if_pos c4]
theorem sw_stores_none {tg e : Expr} (hs : env.scope = sc) (hk : sc.kind = .function) (h : swNo sc tg e = true) : swappedStores [tg] e env = pure none := by
  have hb : env.blockKind = .function := by unfold Env.blockKind; rw [hs, hk]; rfl
  subst hs
  cases tg with
  | Tuple ts k p =>
    cases e with
    | Tuple vs k2 p2 => exact swT_none hb h
    | _ => rfl
  | List ts p =>
    cases e with
    | Tuple vs k2 p2 => cases h
    | _ => rfl
  | _ => cases e <;> rfl
end
end UL
set_option Elab.async false
set_option linter.all false
set_option autoImplicit false
set_option maxRecDepth 100000
set_option maxHeartbeats 4000000
/-! UL13: soundness of statements. -/
namespace UL
open PySem PySem.Spec L2
theorem Inv.ext0 {X : Cx} {pins : List (Addr × Obj)} {σ : L2.St} {H : Hp} {s : Shared} (I : Inv X pins σ H s) : Ext X.H_0 H := ⟨fun a xs h => I.base.tups a xs h, fun a o u h => I.base.frzs a o u h⟩
theorem takes_ext {X : Cx} {W W' : WX} (t : Takes X W) (h : ∀ c d σ H, Ext X.H_0 H → σ.length = X.N.length → W' c d σ H → W c d σ H) : Takes X W' := fun u s' ⟨a, B, sI, pins, σ, H, cls, d, e, I, nb, up, sky, na, os, ag, w⟩ =>
  t u s' ⟨a, B, sI, pins, σ, H, cls, d, e, I, nb, up, sky, na, os, ag, h _ _ _ _ (Inv.ext0 I) I.len w⟩
/-- an exception class of the text, what is to be known -/
structure XcCls (K : PySem.W.Frag) (C : Addr) (fs : List Str) : Prop where
  ga : PySem.W.findIn K (.ref C) "__getattribute__" = some (some (.builtin "BaseException.__getattribute__"))
  gg : PySem.W.findIn K (.ref C) "__getattr__" = some none
  exC : PySem.W.subIn K (.ref C) (.type "BaseException") = some true
  hdC : PySem.W.hasDictIn K C = true
  noN : ∀ f ∈ fs, PySem.W.findIn K (.ref C) f = some none
/-- it can be made: its own __init__ lays its fields, the first one last -/
structure XcAvail (X : Cx) (x : Str) (fs : List Str) : Prop where
  ex : ∃ (C fI : Addr) (fd : FuncData) (k : Nat) (ps : List Str) (sp : Sp), X.mg x = some (.ref C) ∧ XcCls X.K C fs ∧ OexC X.K C ∧ PySem.W.findIn X.K (.ref C) "__init__" = some (some (.ref fI)) ∧ PySem.W.typeIn X.K (.ref fI) = some (.type "function") ∧
    FnOk X.prog X.w X.K X.mg X.base (CX X.prog X.w) k fI fd ps sp ∧ Room (k + 1) X.A ∧ Binds X.K fd ps [] ∧ fs.length ≤ 900 ∧
    ∀ (a : Addr) (ws : List V) (H : Hp) (Q : VK), ws.length = fs.length → H a = some (exo a C none) → (∀ d, H d = none → d ≠ a → Q .non (upd (upd H d (exd d (fs.zip ws.reverse))) a (exo a C (some d)))) → sp (.ref a :: ws) H Q (fun _ _ _ => False)
  db : (x == ("__debug__" : Str)) = false
structure CtxS (X : Cx) (sc : Scope) (tb : Tab2) (Γ : Gam) : Prop extends CtxOk X sc tb.toTab Γ where
  scE : X.env.scope = sc
  knd : sc.kind = .function
  own : PassesOwn (model X.prog X.w) X.A X.env X.xe
  stk : X.stack = X.env :: X.outer
  frm : X.env.frame = some X.env.locals
  xcs : ∀ (i : Nat) (x : Str) (fs : List Str), tb.xcs[i]? = some (x, fs) → XcAvail X x fs
  sub : ∀ (i k : Nat) (x y : Str) (fs gs : List Str) (C D : Addr), tb.xcs[i]? = some (x, fs) → tb.xcs[k]? = some (y, gs) → X.mg x = some (.ref C) → X.mg y = some (.ref D) → PySem.W.exmOne X.K (.ref C) (.ref D) = some (tb.sub i k)
structure Post (K : PySem.W.Frag) (B : Hp) (D0 : UE) (D : Ends) : Prop where
  nx : ∀ s G σ H, D0.nx s G → SR K H s σ → HR K G H → Ext B H → D.nx σ H
  rt : ∀ u G v H, D0.rt u G → RU K H u v → HR K G H → Ext B H → D.rt v H
  bk : ∀ s G σ H, D0.bk s G → SR K H s σ → HR K G H → Ext B H → D.bk σ H
  ct : ∀ s G σ H, D0.ct s G → SR K H s σ → HR K G H → Ext B H → D.ct σ H
def cS (X : Cx) (tb : Tab2) (nt : Bool) (t : UTS) : TS := fun D σ H => ∃ B D0 s G, (nt = true ∨ B = X.H_0) ∧ Takes X (cW X.K X.mg tb.toTab D0.ex) ∧ SR X.K H s σ ∧ HR X.K G H ∧ Ext B H ∧ t D0 s G ∧ Post X.K B D0 D

/-! ### what an exception holds -/
def cH (K : PySem.W.Frag) (a : Addr) (i : Nat) (cls : Value) (d : Option Addr) (t : List (Str × U) → UH → UK → Prop) : TE := fun σ H Q => ∃ (C dx : Addr) (fs : List Str) (vs : List V) (us : List U) (G : UH) (Q0 : UK),
  σ[i]? = some (some (.ref a)) ∧ cls = .ref C ∧ XcCls K C fs ∧ d = some dx ∧ H dx = some (.xd (fs.zip vs)) ∧ fs.length = vs.length ∧ RUs K H us vs ∧ HR K G H ∧ t (fs.zip us) G Q0 ∧
  ∀ u G' v H', Q0 u G' → RU K H' u v → HR K G' H' → Ext H H' → H' dx = H dx → Q v H'
def cHs (K : PySem.W.Frag) (a : Addr) (i : Nat) (cls : Value) (d : Option Addr) (t : List (Str × U) → UH → (List U → UH → Prop) → Prop) : TA := fun σ H Q => ∃ (C dx : Addr) (fs : List Str) (vs : List V) (us : List U) (G : UH) (Q0 : List U → UH → Prop),
  σ[i]? = some (some (.ref a)) ∧ cls = .ref C ∧ XcCls K C fs ∧ d = some dx ∧ H dx = some (.xd (fs.zip vs)) ∧ fs.length = vs.length ∧ RUs K H us vs ∧ HR K G H ∧ t (fs.zip us) G Q0 ∧
  ∀ u G' v H', Q0 u G' → RUs K H' u v → HR K G' H' → Ext H H' → H' dx = H dx → Q v H'
theorem zip_look {K : PySem.W.Frag} {H : Hp} {f : Str} {u : U} : ∀ {fs : List Str} {us : List U} {vs : List V}, RUs K H us vs → (fs.zip us).lookup f = some u → f ∈ fs ∧ ∃ v, (fs.zip vs).lookup f = some v ∧ RU K H u v
  | [], _, _, _, h => by simp at h
  | g :: fs, _, _, .nil, h => by simp at h
  | g :: fs, _, _, .cons (u := u') (x := v') r t, h => by
    simp only [List.zip_cons_cons, List.lookup_cons] at h ⊢
    cases e : f == g with
    | true =>
      rw [e] at h
      simp only [Option.some.injEq] at h
      subst h
      exact ⟨by simp [eq_of_beq e], v', by simp, r⟩
    | false =>
      rw [e] at h
      obtain ⟨h1, v, h2, h3⟩ := zip_look t h
      exact ⟨List.mem_cons_of_mem _ h1, v, by simpa using h2, h3⟩
theorem pe_xfld {X : Cx} {a : Addr} {oe : Obj} {cls : Value} {d : Option Addr} {pn : List (Addr × Obj)} {i : Nat} {n f : Str} {p pos : Pos} (hz : Zc cls d oe) (hf : ∃ vs, oe.data = .fields vs) (he : PE (X.suite a ((a, oe) :: pn)) (.Name n p) (tVar i)) :
    PE (X.suite a ((a, oe) :: pn)) (.Attribute (.Name n p) f pos) (cH X.K a i cls d (trH (.fld f))) := by
  refine ⟨fun pins s σ H Q I h => ?_⟩
  obtain ⟨C, dd, fs, vs, us, G, Q0, hs, ec, T, ed, ea, hl, ru, hg, q, k⟩ := h
  unfold trH at q
  split at q
  · rename_i u hu
    obtain ⟨fm, v, hv, rv⟩ := zip_look ru hu
    refine attr_of rfl (thn (he.run pins s σ H (fun x H1 => x = .ref a ∧ H1 = H) I ⟨.ref a, hs, rfl, rfl⟩) fun w s1 ⟨x, H1, I1, rx, ex, eh⟩ => ?_)
    subst ex eh
    obtain rfl : w = Value.ref a := rx
    subst ec ed
    obtain ⟨ha, _⟩ := I1.pin (a, oe) (List.mem_append_left _ List.mem_cons_self)
    obtain ⟨ws, hd⟩ := hf
    have hx : ObjOk X.prog X.w H1 s1.heap dd (.xd (fs.zip vs)) := I1.hok dd _ ea
    obtain ⟨mA, hns, hr⟩ := hx
    obtain ⟨od, ho, hlk⟩ := lookIn_ns hns
    obtain ⟨w, hu', rw'⟩ := RelO.some_of (v := v) (o := mA f) (by rw [← hv]; exact hr f)
    have J : PySem.W.InstAt s1.heap a oe C (some od) := ⟨ha, hz.1, by unfold PySem.W.notCls; rw [hd] <;> rfl, by rw [hz.2]; exact ho⟩
    exact HandSPX.exc_get I1.kIn J T.ga T.gg T.exC (PySem.W.findObj_own T.hdC (T.noN f fm) rfl (by rw [hlk, hu'])) (handed_of rw') ⟨v, H1, I1.tok _, rw', k u G v H1 q rv hg .refl rfl⟩
  · exact q.elim
theorem cH_c {K : PySem.W.Frag} {a : Addr} {i : Nat} {cls : Value} {d : Option Addr} {u : U} {v : V} (r : ∀ H, RU K H u v) {σ : L2.St} {H : Hp} {Q : VK} (h : cH K a i cls d (fun _ G Q => Q u G) σ H Q) : tC v σ H Q := by
  obtain ⟨C, dd, fs, vs, us, G, Q0, hs, ec, T, ed, ea, hl, ru, hg, q, k⟩ := h
  exact k u G v H q (r H) hg .refl rfl
section
variable {X : Cx} {a : Addr} {oe : Obj} {cls : Value} {d : Option Addr} {pn : List (Addr × Obj)} {i : Nat} {n : Str}
mutual
theorem sH (hz : Zc cls d oe) (hf : ∃ vs, oe.data = .fields vs) (he : ∀ p, PE (X.suite a ((a, oe) :: pn)) (.Name n p) (tVar i)) : ∀ (h : Hx) (e : Expr), chkH n h e = true → PE (X.suite a ((a, oe) :: pn)) e (cH X.K a i cls d (trH h))
  | .fld f, e, c => by
    unfold chkH at c
    split at c
    · simp only [Bool.and_eq_true, decide_eq_true_eq] at c
      obtain ⟨rfl, rfl⟩ := c
      exact pe_xfld hz hf (he _)
    · cases c
  | .int j, e, c => by
    unfold chkH at c
    split at c
    · rw [decide_eq_true_eq] at c
      subst c
      exact PE.weak pe_int fun σ H Q q => cH_c (fun _ => .int _) q
    · rw [decide_eq_true_eq] at c
      subst c
      exact PE.weak (pe_un un_neg pe_int) fun σ H Q q => ⟨_, rfl, cH_c (fun _ => .int _) q⟩
    · cases c
  | .str j, e, c => by
    unfold chkH at c
    split at c
    · rw [decide_eq_true_eq] at c
      subst c
      exact PE.weak pe_str fun σ H Q q => cH_c (fun _ => .str _) q
    · cases c
  | .bl j, e, c => by
    unfold chkH at c
    split at c
    · rw [decide_eq_true_eq] at c
      subst c
      exact PE.weak pe_bl fun σ H Q q => cH_c (fun _ => .bl _) q
    · cases c
  | .non, e, c => by
    unfold chkH at c
    split at c
    · exact PE.weak pe_non fun σ H Q q => cH_c (fun _ => .non) q
    · cases c
  | .tup es, e, c => by
    unfold chkH at c
    split at c
    · refine PE.weak (pe_tup (sHs hz hf he es _ c)) fun σ H Q q => ?_
      obtain ⟨C, dd, fs, vs, us, G, Q0, hs, ec, T, ed, ea, hl, ru, hg, q, k⟩ := q
      refine ⟨C, dd, fs, vs, us, G, _, hs, ec, T, ed, ea, hl, ru, hg, q, fun ws G1 xs H1 q1 r1 g1 e1 d1 => ⟨by rw [← r1.length]; exact q1.1, fun p hp => ?_⟩⟩
      obtain ⟨e2, g2, r2⟩ := g1.newTup hp r1
      exact k _ G1 _ _ q1.2 r2 g2 (e1.trans e2) ((upd_ne (fun z => by rw [← z, d1, ea] at hp; cases hp)).trans d1)
    · cases c
  | .lst es, e, c => by
    unfold chkH at c
    split at c
    · refine PE.weak (pe_lst (sHs hz hf he es _ c)) fun σ H Q q => ?_
      obtain ⟨C, dd, fs, vs, us, G, Q0, hs, ec, T, ed, ea, hl, ru, hg, q, k⟩ := q
      refine ⟨C, dd, fs, vs, us, G, _, hs, ec, T, ed, ea, hl, ru, hg, q, fun ws G1 xs H1 q1 r1 g1 e1 d1 => ⟨by rw [← r1.length]; exact q1.1, fun p hp => ?_⟩⟩
      obtain ⟨e2, g2⟩ := g1.newLst hp r1
      exact k _ _ _ _ (q1.2 p (g1.fresh hp)) (.ref p) g2 (e1.trans e2) ((upd_ne (fun z => by rw [← z, d1, ea] at hp; cases hp)).trans d1)
    · cases c
theorem sHs (hz : Zc cls d oe) (hf : ∃ vs, oe.data = .fields vs) (he : ∀ p, PE (X.suite a ((a, oe) :: pn)) (.Name n p) (tVar i)) : ∀ (h : Hxs) (e : List Expr), chkHs n h e = true → PA (X.suite a ((a, oe) :: pn)) e (cHs X.K a i cls d (trHs h))
  | .nil, [], _ => by
    refine PA.weak pa_nil fun σ H Q q => ?_
    obtain ⟨C, dd, fs, vs, us, G, Q0, hs, ec, T, ed, ea, hl, ru, hg, q, k⟩ := q
    exact k _ G _ H q .nil hg .refl rfl
  | .nil, _ :: _, c => by cases c
  | .cons _ _, [], c => by cases c
  | .cons h hs, e :: es, c => by
    simp only [chkHs, Bool.and_eq_true] at c
    refine PA.weak (pa_cons (sH hz hf he h e c.1.2) (sHs hz hf he hs es c.2) (star_each c.1.1)) fun σ H Q q => ?_
    obtain ⟨C, dd, fs, vs, us, G, Q0, hs, ec, T, ed, ea, hl, ru, hg, q, k⟩ := q
    refine ⟨C, dd, fs, vs, us, G, _, hs, ec, T, ed, ea, hl, ru, hg, q, fun u G1 v H1 q1 r1 g1 e1 d1 => ⟨C, dd, fs, vs, us, G1, _, hs, ec, T, ed, d1.trans ea, hl, RUs.ext e1 ru, g1, q1, fun ws G2 xs H2 q2 r2 g2 e2 d2 => ?_⟩⟩
    exact k _ G2 _ H2 q2 (.cons (RU.ext e2 r1) r2) g2 (e1.trans e2) (d2.trans d1)
end
end
end UL
set_option Elab.async false
set_option linter.all false
set_option autoImplicit false
set_option maxRecDepth 100000
set_option maxHeartbeats 4000000
/-! UL14: soundness of statements. -/
namespace UL
open PySem PySem.Spec L2
theorem RKV.any {K : PySem.W.Frag} {H : Hp} (k : Key) : ∀ {kvs : List (Key × U)} {xs : List (Key × V)}, RKV K H kvs xs → (kvs.any fun kv => decide (kv.1 = k)) = (xs.any fun kv => decide (kv.1 = k)) := by
  intro kvs xs r
  unfold RKV at r
  induction r with
  | nil => rfl
  | cons h _ ih => simp only [List.any_cons, ih, h.1]
theorem RKV.put {K : PySem.W.Frag} {H : Hp} {k : Key} {u : U} {v : V} (q : RU K H u v) {kvs : List (Key × U)} {xs : List (Key × V)} (r : RKV K H kvs xs) : RKV K H (putU kvs k u) (putK xs k v) := by
  unfold putU putK
  rw [RKV.any k r]
  split
  · rename_i hh
    clear hh
    unfold RKV at *
    induction r with
    | nil => exact .nil
    | cons h _ ih =>
      refine .cons ?_ ih
      dsimp only
      rw [h.1]
      split
      · exact ⟨rfl, q⟩
      · exact h
  · rename_i hh
    clear hh
    unfold RKV at *
    induction r with
    | nil => exact .cons ⟨rfl, q⟩ .nil
    | cons h _ ih => exact .cons h ih
theorem RKV.length {K : PySem.W.Frag} {H : Hp} {kvs : List (Key × U)} {xs : List (Key × V)} (r : RKV K H kvs xs) : kvs.length = xs.length := by
  unfold RKV at r
  induction r with
  | nil => rfl
  | cons _ _ ih => simp [ih]
def cSet (K : PySem.W.Frag) : TSet := fun o i v H Q => ∃ x y z G Q0, RU K H x o ∧ RU K H y i ∧ RU K H z v ∧ HR K G H ∧ uSet x y z G Q0 ∧ ∀ G' H', Q0 G' → HR K G' H' → Ext H H' → Q H'
theorem pset_any {X : Cx} (hu : X.A.units + 1 < cLine) : PSet X (cSet X.K) := by
  intro pins s σ H o i v ov iv u Q I ro ri rv h
  obtain ⟨x, y, z, G, Q0, rx, ry, rz, hg, h, k⟩ := h
  unfold uSet at h
  split at h
  · rename_i a
    cases rx
    split at h
    · rename_i us e1
      obtain ⟨xs, h1, r1⟩ := hg.lst e1
      split at h
      · split at h
        · rename_i j hj
          cases ry
          obtain ⟨e, g⟩ := hg.setLst e1 (r1.set rz j)
          exact set_list pins s σ H _ _ v ov iv u Q I ro ri rv ⟨a, xs, _, j, rfl, rfl, h1, by rw [← r1.length]; exact hj, k _ _ h g e⟩
        · exact h.elim
      · exact h.elim
    · rename_i kvs e1
      obtain ⟨xs, h1, r1⟩ := hg a _ e1
      split at h
      · rename_i kk hk
        have ek := key_rel ry hk
        subst ek
        have e : Ext H (upd H a (.dK (putK xs kk v))) := .wr h1 (fun _ z => by cases z) (fun _ _ z => by cases z)
        refine set_dict hu pins s σ H _ _ v ov iv u Q I ro ri rv ⟨a, _, rfl, DPut.k h1 (by rw [← r1.length]; exact h.1), k _ _ h.2 (hg.put e ⟨_, upd_same, RKV.ext e (RKV.put rz r1)⟩) e⟩
      · exact h.elim
    · exact h.elim
  · exact h.elim
def cIp (K : PySem.W.Frag) (r : UOp) : TIp := fun x y H Q => ∃ a b G Q0, RU K H a x ∧ RU K H b y ∧ HR K G H ∧ r a b G Q0 ∧ ∀ z G' v H', Q0 z G' → RU K H' z v → HR K G' H' → Ext H H' → Q v H'
theorem pip_any {X : Cx} (op : Operator) : PIp X op (cIp X.K (uIp op)) := by
  intro pins s σ H x y v u Q I rx ry h
  obtain ⟨a, b, G, Q0, ra, rb, hg, h, k⟩ := h
  unfold uIp at h
  split at h
  · split at h
    · cases ra; cases rb
      exact ip_add pins s σ H _ _ v u Q I rx ry ⟨_, _, rfl, rfl, k _ G _ H h (.int _) hg .refl⟩
    · exact h.elim
  · split at h
    · cases ra; cases rb
      exact ip_sub pins s σ H _ _ v u Q I rx ry ⟨_, _, rfl, rfl, k _ G _ H h (.int _) hg .refl⟩
    · exact h.elim
  · exact h.elim
theorem get_list {X : Cx} : PGet X (fun x y H Q => ∃ p xs i v, x = .ref p ∧ y = .int i ∧ H p = some (.lst xs) ∧ atI xs i = some v ∧ Q v H) := by
  intro pins s σ H x y v u Q I rx ry h
  obtain ⟨p, xs, i, z, rfl, rfl, hp, he, q⟩ := h
  cases rx
  obtain ⟨t, rfl⟩ := ry
  obtain ⟨its, r, pl, hz⟩ := I.list (SqL.of hp)
  obtain ⟨j, h1, h2, h3, h4, h5⟩ := atI_get he
  obtain ⟨w, ew, rw'⟩ := r.get h2
  have hl := r.length
  have hn := line63
  by_cases h0 : 0 ≤ i
  · have hj : i.toNat = j := Option.some.inj ((seqIndex_of h0 h5).symm.trans h1)
    exact wpAny_getItem_list pl.isList h0 (by omega) (by rw [hj]; simpa using ew) ⟨z, H, I, rw', q⟩
  · have hj : (i + (its.toArray.size : Int)).toNat = j := by
      rw [List.size_toArray, ← hl]
      exact Option.some.inj ((seqIndex_neg (by omega) h4).symm.trans h1)
    exact wpAny_getItem_list_neg pl.isList (by omega) (by rw [List.size_toArray] <;> omega) (by omega) (by rw [hj]; simpa using ew) ⟨z, H, I, rw', q⟩
theorem get_u {X : Cx} (hu : X.A.units + 1 < cLine) : PGet X (c2 X.K uGet) := by
  intro pins s σ H x y v u Q I rx ry h
  obtain ⟨a, b, G, Q0, ra, rb, hg, h, k⟩ := h
  unfold uGet at h
  split at h
  · unfold uIx at h
    simp only at h
    cases ra
    split at h
    · rename_i us e
      obtain ⟨xs, h1, r1⟩ := hg.lst e
      split at h
      · split at h
        · rename_i e2
          cases rb
          obtain ⟨vv, e3, r2⟩ := atI_rel r1 e2
          exact get_list pins s σ H _ _ v u Q I rx ry ⟨_, xs, _, vv, rfl, rfl, h1, e3, k _ G _ H h r2 hg .refl⟩
        · exact h.elim
      · exact h.elim
    · rename_i kvs e
      obtain ⟨xs, h1, r1⟩ := hg _ _ e
      split at h
      · rename_i kk hk
        split at h
        · rename_i u' hu'
          have ek := key_rel rb hk
          subst ek
          rcases lookK_rel r1 kk with ⟨e1, _⟩ | ⟨u2, v2, e1, e2, r2⟩
          · rw [e1] at hu'; cases hu'
          · rw [e1] at hu'
            cases hu'
            cases (show v = Value.ref _ from rx)
            exact d_getItem hu I (by rw [← e2]; exact DGet.k h1) ry fun w' s' I' r' => ⟨v2, H, I', r', k _ G _ H h r2 hg .refl⟩
        · exact h.elim
      · exact h.elim
    · exact h.elim
  · exact h.elim
theorem plain_st {o i : Expr} {pos : Pos} {env : Env} (h : notSl i = true) : ∀ v, assign (.Subscript o i pos) env v = (do
      let ov ← holding [v] (eval o env)
      let iv ← holding [v, ov] (eval i env)
      standAt pos
      holding [v, ov, iv] (setItem ov iv v)
      release [v, ov, iv] []) := by
  intro v
  cases i <;> first | rfl | cases h
theorem plain_aug {i : Expr} (h : notSl i = true) : ∀ ov iv new, augStore i ov iv new = (do holding [new, ov, iv] (setItem ov iv new); release [new, ov, iv] []; pure .next) := by
  intro ov iv new
  cases i <;> first | rfl | cases h
theorem dedup2 {x y : Str} (h : x ≠ y) : [x, y].eraseDups = [x, y] := by
  have h' : (y == x) = false := by simpa using fun z : y = x => h z.symm
  simp [List.eraseDups_cons, List.filter, h']
theorem dedup3 {x y z : Str} (h : x ≠ y) (h2 : x ≠ z) (h3 : y ≠ z) : [x, y, z].eraseDups = [x, y, z] := by
  have h' : (y == x) = false := by simpa using fun w : y = x => h w.symm
  have h2' : (z == x) = false := by simpa using fun w : z = x => h2 w.symm
  have h3' : (z == y) = false := by simpa using fun w : z = y => h3 w.symm
  simp [List.eraseDups_cons, List.filter, h', h2', h3']
theorem no_star {env : Env} : ∀ {es : List Expr}, es.all notStar = true → (es.any fun | .Starred .. => true | _ => false) = false
  | [], _ => rfl
  | e :: es, h => by
    simp only [List.all_cons, Bool.and_eq_true] at h
    rw [List.any_cons, no_star (env := env) h.2, Bool.or_false]
    cases e <;> first | rfl | cases h.1
theorem sw_two {env : Env} {x y : Str} {px py pp p2 : Pos} {kk k2 : Nat} {a b : Expr} (hb : env.blockKind = .function) (hx : env.scope.names.lookup x = some .local) (hy : env.scope.names.lookup y = some .local) (hn : x ≠ y) (hl : (py.line == px.line) = true)
    (hs : [a, b].all notStar = true) (hf : [a, b].all (foldedForSure 8) = false) (hk : [a, b].all (constantsAlone 8) = false) : swappedStores [.Tuple [.Name x px, .Name y py] kk pp] (.Tuple [a, b] k2 p2) env = pure (some [x, y]) := by
  have e1 : (env.kindOf x == some .local) = true := by unfold Env.kindOf; rw [hx]; rfl
  have e2 : (env.kindOf y == some .local) = true := by unfold Env.kindOf; rw [hy]; rfl
  unfold swappedStores
  dsimp only
  split
  · rename_i c
    rw [hb] at c
    exact Bool.noConfusion (show false = true from c)
  · split
    · rename_i c
      exact absurd ((no_star (env := env) hs).symm.trans c) (by decide)
    · have en : (List.filterMap (fun | Expr.Name id pos => if (env.kindOf id == some NameKind.local && pos.line == (([Expr.Name x px, Expr.Name y py].head?.map (·.pos.line)).getD 0)) = true then some id else none | _ => none) [Expr.Name x px, Expr.Name y py]) = [x, y] := by
        simp only [List.filterMap_cons, List.filterMap_nil, e1, e2, List.head?_cons, Option.map_some, Option.getD_some, Expr.pos, beq_self_eq_true, Bool.and_self, if_true, hl]
      split
      · rename_i c
        exact absurd c (by
          show ¬ (((List.filterMap _ [Expr.Name x px, Expr.Name y py]).length != 2 || (List.filterMap _ [Expr.Name x px, Expr.Name y py]).eraseDups.length != (List.filterMap _ [Expr.Name x px, Expr.Name y py]).length) = true)
          erw [en, dedup2 hn]
          exact fun z => Bool.noConfusion (show false = true from z))
      · rw [if_neg (by rw [hf]; decide), if_neg (by rw [hk]; decide)]
        exact congrArg (fun z => pure (some z)) en
theorem sw_three {env : Env} {x y z : Str} {px py pz pp p2 : Pos} {kk k2 : Nat} {a b c : Expr} (hb : env.blockKind = .function) (hx : env.scope.names.lookup x = some .local) (hy : env.scope.names.lookup y = some .local) (hz : env.scope.names.lookup z = some .local) (hn : x ≠ y) (hn2 : x ≠ z) (hn3 : y ≠ z)
    (hl : (py.line == px.line) = true) (hl2 : (pz.line == px.line) = true)
    (hs : [a, b, c].all notStar = true) (hf : [a, b, c].all (foldedForSure 8) = false) (hk : [a, b, c].all (constantsAlone 8) = false) : swappedStores [.Tuple [.Name x px, .Name y py, .Name z pz] kk pp] (.Tuple [a, b, c] k2 p2) env = pure (some [x, y, z]) := by
  have e1 : (env.kindOf x == some .local) = true := by unfold Env.kindOf; rw [hx]; rfl
  have e2 : (env.kindOf y == some .local) = true := by unfold Env.kindOf; rw [hy]; rfl
  have e3 : (env.kindOf z == some .local) = true := by unfold Env.kindOf; rw [hz]; rfl
  unfold swappedStores
  dsimp only
  split
  · rename_i c
    rw [hb] at c
    exact Bool.noConfusion (show false = true from c)
  · split
    · rename_i c
      exact absurd ((no_star (env := env) hs).symm.trans c) (by decide)
    · have en : (List.filterMap (fun | Expr.Name id pos => if (env.kindOf id == some NameKind.local && pos.line == (([Expr.Name x px, Expr.Name y py, Expr.Name z pz].head?.map (·.pos.line)).getD 0)) = true then some id else none | _ => none) [Expr.Name x px, Expr.Name y py, Expr.Name z pz]) = [x, y, z] := by
        simp only [List.filterMap_cons, List.filterMap_nil, e1, e2, e3, List.head?_cons, Option.map_some, Option.getD_some, Expr.pos, beq_self_eq_true, Bool.and_self, if_true, hl, hl2]
      split
      · rename_i c
        exact absurd c (by
          show ¬ (((List.filterMap _ [Expr.Name x px, Expr.Name y py, Expr.Name z pz]).length != 3 || (List.filterMap _ [Expr.Name x px, Expr.Name y py, Expr.Name z pz]).eraseDups.length != (List.filterMap _ [Expr.Name x px, Expr.Name y py, Expr.Name z pz]).length) = true)
          erw [en, dedup3 hn hn2 hn3]
          exact fun z => Bool.noConfusion (show false = true from z))
      · rw [if_neg (by rw [hf]; decide), if_neg (by rw [hk]; decide)]
        exact congrArg (fun z => pure (some z)) en
theorem xd_end {H1 : Hp} {a d C : Addr} {fs : List (Str × V)} (ha : H1 a = none) (hda : d ≠ a) :
    upd (del (upd (upd (upd H1 a (exo a C none)) d (exd d fs)) a (exo a C (some d))) a) d (.xd fs) = upd H1 d (.xd fs) := by
  funext b
  by_cases hb : b = d
  · subst hb; rw [upd_same, upd_same]
  · rw [upd_ne hb, upd_ne hb]
    by_cases hb2 : b = a
    · subst hb2; rw [del_same, ha]
    · rw [del_ne hb2, upd_ne hb2, upd_ne hb, upd_ne hb2]
theorem CtxS.tr {X : Cx} {sc : Scope} {tb : Tab2} {Γ : Gam} (C : CtxS X sc tb Γ) (pn : List (Addr × Obj)) (xe : Value → Shared → Prop) (hp : PassesOwn (model X.prog X.w) X.A X.env xe) : CtxS (X.tr pn xe) sc tb Γ where
  sco := ⟨C.sco.vis, C.sco.loc, C.sco.gl, C.sco.cf⟩
  nd := C.nd
  calm := C.calm
  hu := C.hu
  fns := fun i x h => ⟨(C.fns i x h).ex, (C.fns i x h).db⟩
  gls := C.gls
  blt := C.blt
  scE := C.scE
  knd := C.knd
  own := hp
  stk := C.stk
  frm := C.frm
  xcs := fun i x fs h => ⟨(C.xcs i x fs h).ex, (C.xcs i x fs h).db⟩
  sub := C.sub
section
variable {tb : Tab2} {Γ : Gam}
theorem loc_of {X : Cx} {sc : Scope} (C : CtxS X sc tb Γ) {i : Nat} {x : Str} (h : locOnly X.N sc i x = true) : X.N[i]? = some x ∧ X.env.scope.names.lookup x = some .local := by
  unfold locOnly at h
  simp only [Bool.and_eq_true, decide_eq_true_eq] at h
  rw [C.scE]
  exact h
mutual
theorem sS : ∀ (st : Sm) {X : Cx} {sc : Scope} {nt : Bool}, CtxS X sc tb Γ → ∀ x : Stmt, chkS X.N sc tb nt st x = true → PS X x (cS X tb nt (trS tb Γ st))
  | .asg t e, X, sc, nt, C, x, h => by
    unfold chkS at h
    split at h
    · simp only [Bool.and_eq_true, Bool.not_eq_true'] at h
      obtain ⟨⟨⟨⟨h1, h2⟩, h3⟩, h4⟩, h5⟩ := h
      refine ⟨fun pins s σ H D I q => ?_⟩
      obtain ⟨B, D0, s0, G, hB, tk, hs, hg, eB, q, P⟩ := q
      refine (ps_asg (sE e C.toCtxOk D0.ex tk _ h5) (sG C.toCtxOk t _ h4) (sw_not C.scE C.knd h2) (sw_stores_none C.scE C.knd h3) (by rw [assign_each h1]; rfl)).run pins s σ H D I ?_
      exact ⟨s0, G, _, hs, hg, q, fun u G1 v H1 q1 r1 g1 e1 => ⟨u, s0, G1, D0.nx, r1, hs.ext e1, g1, q1, fun s' G' σ' H' q' hs' hg' e' _ _ => P.nx s' G' σ' H' q' hs' hg' (eB.trans (e1.trans e'))⟩⟩
    · cases h
  | .par2 i j es, X, sc, nt, C, x, h => by
    unfold chkS at h
    split at h
    · rename_i x px y py kk pp a b k2 p2 pos
      simp only [Bool.and_eq_true, Bool.not_eq_true', decide_eq_true_eq] at h
      obtain ⟨⟨⟨⟨⟨⟨⟨⟨⟨h1, h2⟩, h3⟩, h4⟩, h5⟩, h6⟩, h7⟩, h8⟩, h9⟩, h10⟩ := h
      obtain ⟨n1, l1⟩ := loc_of C h1
      obtain ⟨n2, l2⟩ := loc_of C h2
      have hb : X.env.blockKind = .function := by unfold Env.blockKind; rw [C.scE, C.knd]; rfl
      have sw : swappedStores [.Tuple [.Name x px, .Name y py] kk pp] (.Tuple [a, b] k2 p2) X.env = pure (some [x, y]) :=
        sw_two hb l1 l2 h4 h5 (by simp [h6, h7]) h8 h9
      refine ⟨fun pins s σ H D I q => ?_⟩
      obtain ⟨B, D0, s0, G, hB, tk, hs, hg, eB, q, P⟩ := q
      refine (ps_par C.calm C.nd n1 n2 h3 l1 l2 (sA es C.toCtxOk D0.ex tk _ h10) sw).run pins s σ H D I ?_
      refine ⟨s0, G, _, hs, hg, q, fun us G1 vs H1 q1 r1 g1 e1 => ?_⟩
      split at q1
      · cases r1 with
        | cons r r1 =>
          cases r1 with
          | cons r2 r1 =>
            cases r1
            refine ⟨_, _, rfl, P.nx _ G1 _ H1 q1 ?_ g1 (eB.trans e1)⟩
            rw [setS_eq, setS_eq]
            exact ((hs.ext e1).set r).set r2
      · exact q1.elim
    · cases h
  | .par3 i j l es, X, sc, nt, C, x, h => by
    unfold chkS at h
    split at h
    · rename_i x px y py z pz kk pp a b c k2 p2 pos
      simp only [Bool.and_eq_true, Bool.not_eq_true', decide_eq_true_eq] at h
      obtain ⟨⟨⟨⟨⟨⟨⟨⟨⟨⟨⟨⟨⟨⟨⟨⟨h1, h2⟩, h3⟩, d1⟩, d2⟩, d3⟩, d4⟩, d5⟩, d6⟩, p1⟩, p2'⟩, b1⟩, b2⟩, b3⟩, f1⟩, f2⟩, h10⟩ := h
      obtain ⟨n1, l1⟩ := loc_of C h1
      obtain ⟨n2, l2⟩ := loc_of C h2
      obtain ⟨n3, l3⟩ := loc_of C h3
      have hb : X.env.blockKind = .function := by unfold Env.blockKind; rw [C.scE, C.knd]; rfl
      have sw : swappedStores [.Tuple [.Name x px, .Name y py, .Name z pz] kk pp] (.Tuple [a, b, c] k2 p2) X.env = pure (some [x, y, z]) :=
        sw_three hb l1 l2 l3 d4 d5 d6 p1 p2' (by simp [b1, b2, b3]) f1 f2
      refine ⟨fun pins s σ H D I q => ?_⟩
      obtain ⟨B, D0, s0, G, hB, tk, hs, hg, eB, q, P⟩ := q
      refine (ps_par3 C.calm C.nd n1 n2 n3 d1 d2 d3 l1 l2 l3 (sA es C.toCtxOk D0.ex tk _ h10) sw).run pins s σ H D I ?_
      refine ⟨s0, G, _, hs, hg, q, fun us G1 vs H1 q1 r1 g1 e1 => ?_⟩
      split at q1
      · cases r1 with
        | cons r r1 =>
          cases r1 with
          | cons r2 r1 =>
            cases r1 with
            | cons r3 r1 =>
              cases r1
              refine ⟨_, _, _, rfl, P.nx _ G1 _ H1 q1 ?_ g1 (eB.trans e1)⟩
              rw [setS_eq, setS_eq, setS_eq]
              exact (((hs.ext e1).set r).set r2).set r3
      · exact q1.elim
    · cases h
  | .setLc i elt tg it c, X, sc, nt, C, x, h => by
    unfold chkS at h
    split at h
    · rename_i y py el t ii ifs scope pos spos
      simp only [Bool.and_eq_true, Bool.not_eq_true'] at h
      obtain ⟨⟨⟨h1, h2⟩, h3⟩, h4⟩ := h
      obtain ⟨n1, l1⟩ := loc_of C h1
      unfold chkE at h4
      simp only [Bool.and_eq_true] at h4
      obtain ⟨⟨⟨⟨⟨k1, k2⟩, k3⟩, k4⟩, k5⟩, k6⟩ := h4
      refine ⟨fun pins s σ H D I q => ?_⟩
      obtain ⟨B, D0, s0, G, hB, tk, hs, hg, eB, q, P⟩ := q
      have C0 := C.toCtxOk
      have R := ps_setLc (i := i) (py := py) (spos := spos) (pos := pos) (g := cG X.K (slotsG tg) (trG tg)) (te := cE X.K (trE Γ (fun _ _ _ => False) elt)) (tt := cT X.K (trC Γ (fun _ _ _ => False) c)) C.calm C.nd n1 l1 (sw_true (by rw [C.scE]; exact C.knd) l1 h2 h3)
        (sI it C0 D0.ex tk t ii k3) (blk_ok C0 k2) (fun s H Cc cl fp => sG (C0.blk s H scope Cc cl fp) tg t k4)
        (fun s H Cc cl fp => sC c (C0.blk s H scope Cc cl fp) (fun _ _ _ => False) (takes_false fun _ _ _ _ z => by obtain ⟨_, _, _, _, _, _, z⟩ := z; exact z) ifs k5)
        (fun s H Cc cl fp => sE elt (C0.blk s H scope Cc cl fp) (fun _ _ _ => False) (takes_false fun _ _ _ _ z => by obtain ⟨_, _, _, _, _, _, z⟩ := z; exact z) el k6) (not_set k1)
      rw [own_snd] at R
      refine R.run pins s σ H D I ?_
      refine lc_conv ⟨s0, G, _, hs, hg, q, fun u G1 v H1 q1 r1 g1 e1 => P.nx _ G1 _ H1 q1 ?_ g1 (eB.trans e1)⟩
      rw [setS_eq]
      exact (hs.ext e1).set r1
    · cases h
  | .sub o i e, X, sc, nt, C, x, h => by
    unfold chkS at h
    split at h
    · simp only [Bool.and_eq_true, Bool.not_eq_true'] at h
      obtain ⟨⟨⟨⟨h1, h2⟩, h3⟩, h4⟩, h5⟩ := h
      refine ⟨fun pins s σ H D I q => ?_⟩
      obtain ⟨B, D0, s0, G, hB, tk, hs, hg, eB, q, P⟩ := q
      refine (ps_asg (sE e C.toCtxOk D0.ex tk _ h4) (pg_sub (sE o C.toCtxOk D0.ex tk _ h2) (sE i C.toCtxOk D0.ex tk _ h3) (pset_any (by have := C.hu; omega)) (plain_st h1)) (sw_not C.scE C.knd h5) (sw_stores_none C.scE C.knd (by cases ‹Expr› <;> rfl)) rfl).run pins s σ H D I ?_
      refine ⟨s0, G, _, hs, hg, q, fun u G1 v H1 q1 r1 g1 e1 => ⟨s0, G1, _, hs.ext e1, g1, q1, fun x G2 v2 H2 q2 r2 g2 e2 => ⟨s0, G2, _, hs.ext (e1.trans e2), g2, q2, fun y G3 v3 H3 q3 r3 g3 e3 => ?_⟩⟩⟩
      exact ⟨x, y, u, G3, _, RU.ext e3 r2, r3, RU.ext (e2.trans e3) r1, g3, q3, fun G4 H4 q4 g4 e4 => P.nx s0 G4 σ H4 q4 (hs.ext (((e1.trans e2).trans e3).trans e4)) g4 (eB.trans (((e1.trans e2).trans e3).trans e4))⟩
    · cases h
  | .aug i op e, X, sc, nt, C, x, h => by
    unfold chkS at h
    split at h
    · simp only [Bool.and_eq_true, decide_eq_true_eq] at h
      obtain ⟨⟨⟨h1, h2⟩, h3⟩, h4⟩ := h
      subst h1
      obtain ⟨hl, hf⟩ := C.sco.loc _ h3
      refine ⟨fun pins s σ H D I q => ?_⟩
      obtain ⟨B, D0, s0, G, hB, tk, hs, hg, eB, q, P⟩ := q
      refine (ps_aug C.nd h2 hl (sE e C.toCtxOk D0.ex tk _ h4) (pip_any op) hf).run pins s σ H D I ?_
      unfold trS at q
      split at q
      · rename_i u hu
        obtain ⟨v, hv, rv⟩ := hs.at_ i u (getS_some hu)
        refine ⟨v, hv, s0, G, _, hs, hg, q, fun y G1 w H1 q1 r1 g1 e1 => ⟨u, y, G1, _, RU.ext e1 rv, r1, g1, q1, fun z G2 w2 H2 q2 r2 g2 e2 => P.nx _ G2 _ H2 q2 ?_ g2 (eB.trans (e1.trans e2))⟩⟩
        rw [setS_eq]
        exact (hs.ext (e1.trans e2)).set r2
      · exact q.elim
    · cases h
  | .augS o i op e, X, sc, nt, C, x, h => by
    unfold chkS at h
    split at h
    · simp only [Bool.and_eq_true, decide_eq_true_eq] at h
      obtain ⟨⟨⟨⟨h1, h2⟩, h3⟩, h4⟩, h5⟩ := h
      subst h1
      refine ⟨fun pins s σ H D I q => ?_⟩
      obtain ⟨B, D0, s0, G, hB, tk, hs, hg, eB, q, P⟩ := q
      refine (ps_augS (sE o C.toCtxOk D0.ex tk _ h3) (sE i C.toCtxOk D0.ex tk _ h4) (get_u (by have := C.hu; omega)) (sE e C.toCtxOk D0.ex tk _ h5) (pip_any op) (pset_any (by have := C.hu; omega)) (plain_aug h2)).run pins s σ H D I ?_
      refine ⟨s0, G, _, hs, hg, q, fun x G1 v1 H1 q1 r1 g1 e1 => ⟨s0, G1, _, hs.ext e1, g1, q1, fun y G2 v2 H2 q2 r2 g2 e2 => ?_⟩⟩
      refine ⟨x, y, G2, _, RU.ext e2 r1, r2, g2, q2, fun z G3 v3 H3 q3 r3 g3 e3 => ⟨s0, G3, _, hs.ext ((e1.trans e2).trans e3), g3, q3, fun v G4 v4 H4 q4 r4 g4 e4 => ?_⟩⟩
      refine ⟨z, v, G4, _, RU.ext e4 r3, r4, g4, q4, fun w G5 v5 H5 q5 r5 g5 e5 => ?_⟩
      exact ⟨x, y, w, G5, _, RU.ext (((e2.trans e3).trans e4).trans e5) r1, RU.ext ((e3.trans e4).trans e5) r2, r5, g5, q5, fun G6 H6 q6 g6 e6 => P.nx s0 G6 σ H6 q6 (hs.ext (((((e1.trans e2).trans e3).trans e4).trans e5).trans e6)) g6 (eB.trans (((((e1.trans e2).trans e3).trans e4).trans e5).trans e6))⟩
    · cases h
  | .expr e, X, sc, nt, C, x, h => by
    unfold chkS at h
    split at h
    · simp only [Bool.and_eq_true, Bool.not_eq_true'] at h
      refine ⟨fun pins s σ H D I q => ?_⟩
      obtain ⟨B, D0, s0, G, hB, tk, hs, hg, eB, q, P⟩ := q
      refine (ps_expr (sE e C.toCtxOk D0.ex tk _ h.2) (sw_none h.1)).run pins s σ H D I ?_
      exact ⟨s0, G, _, hs, hg, q, fun u G1 v H1 q1 r1 g1 e1 => P.nx s0 G1 σ H1 q1 (hs.ext e1) g1 (eB.trans e1)⟩
    · cases h
  | .doc, X, sc, nt, C, x, h => by
    unfold chkS at h
    split at h
    · refine PS.weak ps_doc fun D σ H q => ?_
      obtain ⟨B, D0, s0, G, hB, tk, hs, hg, eB, q, P⟩ := q
      exact P.nx s0 G σ H q hs hg eB
    · cases h
  | .ret e, X, sc, nt, C, x, h => by
    unfold chkS at h
    split at h
    · refine ⟨fun pins s σ H D I q => ?_⟩
      obtain ⟨B, D0, s0, G, hB, tk, hs, hg, eB, q, P⟩ := q
      refine (ps_ret (sE e C.toCtxOk D0.ex tk _ h)).run pins s σ H D I ?_
      exact ⟨s0, G, _, hs, hg, q, fun u G1 v H1 q1 r1 g1 e1 => P.rt u G1 v H1 q1 r1 g1 (eB.trans e1)⟩
    · cases h
  | .retN, X, sc, nt, C, x, h => by
    unfold chkS at h
    split at h
    · refine PS.weak ps_retN fun D σ H q => ?_
      obtain ⟨B, D0, s0, G, hB, tk, hs, hg, eB, q, P⟩ := q
      exact P.rt .non G .non H q .non hg eB
    · cases h
  | .ife c a b, X, sc, nt, C, x, h => by
    unfold chkS at h
    split at h
    · simp only [Bool.and_eq_true] at h
      obtain ⟨⟨h1, h2⟩, h3⟩ := h
      refine ⟨fun pins s σ H D I q => ?_⟩
      obtain ⟨B, D0, s0, G, hB, tk, hs, hg, eB, q, P⟩ := q
      refine (ps_if (sT c C.toCtxOk D0.ex tk _ h1) (sSs a C _ h2) (sSs b C _ h3)).run pins s σ H D I ?_
      refine ⟨s0, G, _, hs, hg, q, fun k G1 H1 q1 g1 e1 => ?_⟩
      cases k with
      | true => exact ⟨B, D0, s0, G1, hB, tk, hs.ext e1, g1, eB.trans e1, by simpa using q1, P⟩
      | false => exact ⟨B, D0, s0, G1, hB, tk, hs.ext e1, g1, eB.trans e1, by simpa using q1, P⟩
    · cases h
  | .whl c b, X, sc, nt, C, x, h => by
    unfold chkS at h
    split at h
    · simp only [Bool.and_eq_true] at h
      obtain ⟨h1, h2⟩ := h
      refine ⟨fun pins s σ H D I q => ?_⟩
      obtain ⟨B, D0, s0, G, hB, tk, hs, hg, eB, q, P⟩ := q
      refine (ps_while C.own (sT c C.toCtxOk D0.ex tk _ h1) (sSs b C _ h2)).run pins s σ H D I ?_
      obtain ⟨Iv, ⟨m, h0⟩, q⟩ := q
      refine ⟨fun m σ1 H1 => ∃ s1 G1, SR X.K H1 s1 σ1 ∧ HR X.K G1 H1 ∧ Ext B H1 ∧ Iv m s1 G1, ⟨m, s0, G, hs, hg, eB, h0⟩, fun m σ1 H1 w => ?_⟩
      obtain ⟨s1, G1, hs1, hg1, eB1, w⟩ := w
      refine ⟨s1, G1, _, hs1, hg1, q m s1 G1 w, fun k G2 H2 q2 g2 e2 => ?_⟩
      cases k with
      | true =>
        simp only [if_true] at q2 ⊢
        refine ⟨fun σ3 H3 => ∃ m' s3 G4, m' < m ∧ SR X.K H3 s3 σ3 ∧ HR X.K G4 H3 ∧ Ext B H3 ∧ Iv m' s3 G4, fun σ3 H3 z => ?_, ?_⟩
        · obtain ⟨m', s3, G4, z1, z2, z3, z4, z5⟩ := z
          exact ⟨m', z1, s3, G4, z2, z3, z4, z5⟩
        · refine ⟨B, ⟨fun s2 G3 => ∃ m' G4, m' < m ∧ Le G4 G3 ∧ Iv m' s2 G4, D0.rt, D0.nx, fun s2 G3 => ∃ m' G4, m' < m ∧ Le G4 G3 ∧ Iv m' s2 G4, D0.ex⟩, s1, G2, hB, tk, hs1.ext e2, g2, eB1.trans e2, q2, ⟨?_, ?_, ?_, ?_⟩⟩
          · rintro s3 G3 σ3 H3 ⟨m', G4, z1, z2, z3⟩ hs3 hg3 eB3
            exact ⟨m', s3, G4, z1, hs3, hg3.le z2, eB3, z3⟩
          · exact P.rt
          · exact P.nx
          · rintro s3 G3 σ3 H3 ⟨m', G4, z1, z2, z3⟩ hs3 hg3 eB3
            exact ⟨m', s3, G4, z1, hs3, hg3.le z2, eB3, z3⟩
      | false =>
        simp only [Bool.false_eq_true, if_false] at q2 ⊢
        exact P.nx s1 G2 σ1 H2 q2 (hs1.ext e2) g2 (eB1.trans e2)
    · cases h
  | .for_ t it b, X, sc, nt, C, x, h => by
    unfold chkS at h
    split at h
    · simp only [Bool.and_eq_true] at h
      obtain ⟨⟨⟨h1, h2⟩, h3⟩, h4⟩ := h
      refine ⟨fun pins s σ H D I q => ?_⟩
      obtain ⟨B, D0, s0, G, hB, tk, hs, hg, eB, q, P⟩ := q
      refine (ps_for C.own C.calm (sI it C.toCtxOk D0.ex tk _ _ h3) (sG C.toCtxOk t _ h2) (sSs b (nt := true) C _ h4) (not_set h1)).run pins s σ H D I ?_
      refine ⟨s0, G, _, hs, hg, q, fun ds ys G1 H1 J q1 g1 e1 ir => ?_⟩
      have f0 : ∀ i, i < ys.length → ∃ u, ys[i]? = some u ∧ ys.drop i = u :: ys.drop (i + 1) := fun i hi => ⟨ys[i], by simp [hi], by rw [List.drop_eq_getElem_cons hi]⟩
      refine ⟨fun i m σ2 H2 => i + m = ys.length ∧ ∃ s2 G2, SR X.K H2 s2 σ2 ∧ HR X.K G2 H2 ∧ Ext H1 H2 ∧ forU ds (trG t) (trSs tb Γ b) D0 (ys.drop i) s2 G2, ⟨ys.length, by omega, s0, G1, hs.ext e1, g1, .refl, by simpa using q1⟩, fun i m σ2 H2 w => ?_⟩
      obtain ⟨hm, s2, G2, hs2, hg2, e2, f⟩ := w
      by_cases hi : i < ys.length
      · obtain ⟨u, hu, hd⟩ := f0 i hi
        rw [hd] at f
        unfold forU at f
        obtain ⟨dk, gq⟩ := f
        refine .inr ⟨ir.go i G2 H2 hg2 dk e2 hi, fun σ3 H3 => ∃ s3 G3, SR X.K H3 s3 σ3 ∧ HR X.K G3 H3 ∧ Ext H1 H3 ∧ forU ds (trG t) (trSs tb Γ b) D0 (ys.drop (i + 1)) s3 G3, fun σ3 H3 z => ⟨m - 1, by omega, by omega, z⟩, fun x H3 yl => ?_⟩
        obtain ⟨u', hu', ru, hg3, e3⟩ := ir.yld i G2 H2 x H3 hg2 dk e2 yl hi
        rw [hu] at hu'
        cases hu'
        refine ⟨u, s2, G2, _, ru, hs2.ext e3, hg3, gq, fun s4 G4 σ4 H4 q4 hs4 hg4 e4 _ _ => ?_⟩
        refine ⟨H1, ⟨fun s2 G2 => ∃ G3, Le G3 G2 ∧ forU ds (trG t) (trSs tb Γ b) D0 (ys.drop (i + 1)) s2 G3, D0.rt, D0.nx, fun s2 G2 => ∃ G3, Le G3 G2 ∧ forU ds (trG t) (trSs tb Γ b) D0 (ys.drop (i + 1)) s2 G3, D0.ex⟩, s4, G4, .inl rfl, tk, hs4, hg4, (e2.trans e3).trans e4, q4, ⟨?_, ?_, ?_, ?_⟩⟩
        · rintro s5 G5 σ5 H5 ⟨G6, z1, z2⟩ hs5 hg5 e5
          exact ⟨s5, G6, hs5, hg5.le z1, e5, z2⟩
        · intro u G v H q r g e
          exact P.rt u G v H q r g ((eB.trans e1).trans e)
        · intro s G σ H q r g e
          exact P.nx s G σ H q r g ((eB.trans e1).trans e)
        · rintro s5 G5 σ5 H5 ⟨G6, z1, z2⟩ hs5 hg5 e5
          exact ⟨s5, G6, hs5, hg5.le z1, e5, z2⟩
      · have ei : i = ys.length := by omega
        subst ei
        rw [List.drop_length] at f
        unfold forU at f
        exact .inl ⟨ir.stop G2 H2 hg2 f.1 e2, P.nx s2 G2 σ2 H2 f.2 hs2 hg2 ((eB.trans e1).trans e2)⟩
    · cases h
  | .brk, X, sc, nt, C, x, h => by
    unfold chkS at h
    split at h
    · refine PS.weak ps_break fun D σ H q => ?_
      obtain ⟨B, D0, s0, G, hB, tk, hs, hg, eB, q, P⟩ := q
      exact P.bk s0 G σ H q hs hg eB
    · cases h
  | .cont, X, sc, nt, C, x, h => by
    unfold chkS at h
    split at h
    · refine PS.weak ps_continue fun D σ H q => ?_
      obtain ⟨B, D0, s0, G, hB, tk, hs, hg, eB, q, P⟩ := q
      exact P.ct s0 G σ H q hs hg eB
    · cases h
  | .pass, X, sc, nt, C, x, h => by
    unfold chkS at h
    split at h
    · refine PS.weak ps_pass fun D σ H q => ?_
      obtain ⟨B, D0, s0, G, hB, tk, hs, hg, eB, q, P⟩ := q
      exact P.nx s0 G σ H q hs hg eB
    · cases h
  | .raise k es, X, sc, nt, C, x, h => by
    unfold chkS at h
    split at h
    · simp only [Bool.and_eq_true, decide_eq_true_eq] at h
      obtain ⟨⟨h1, h2⟩, h3⟩ := h
      rw [Option.map_eq_some_iff] at h1
      obtain ⟨⟨x, fs⟩, hk, rfl⟩ := h1
      obtain ⟨⟨Cc, fI, fd, kk, ps, sp, hm, T, To, iC, tI, F1, hr, hb, hl, hsp⟩, db⟩ := C.xcs k x fs hk
      have st := chkA_star h3
      simp only [List.all_cons, Bool.and_eq_true] at st
      refine ⟨fun pins s σ H D I q => ?_⟩
      obtain ⟨B, D0, s0, G, hB, tk, hs, hg, eB, q, P⟩ := q
      refine (ps_raise C.calm tk (pmk_oex To iC tI F1 hr hb .nil (fun _ _ _ _ _ _ _ z => by obtain ⟨_, _, _, _, _, _, _, _, _, _, _, _, z⟩ := z; exact z.elim) (C.sco.gl _ h2) hm (sA es C.toCtxOk D0.ex tk _ h3) db (star_each st.1) (star_any st.2))).run pins s σ H D I ?_
      refine ⟨s0, G, _, hs, hg, q, fun us G1 vs H1 q1 r1 g1 e1 => ?_⟩
      obtain ⟨l1, q1⟩ := q1
      rw [hk] at l1
      simp only [Option.map_some, Option.some.injEq] at l1
      have l2 := r1.length
      refine ⟨by omega, fun a ha => ?_⟩
      rw [List.append_nil]
      refine hsp a vs _ _ (by omega) upd_same fun d hd hda => ⟨rfl, d, _, upd_same, (upd_ne hda).trans upd_same, ?_, ?_⟩
      · rw [upd_ne hda] at hd; exact hd
      · rw [upd_ne hda] at hd
        rw [xd_end ha hda]
        have e2 : Ext H1 (upd H1 d (.xd (fs.zip vs.reverse))) := .new hd
        exact ⟨(k, us.reverse), s0, G1, hs.ext (e1.trans e2), g1.side e2 (g1.fresh hd), ⟨x, fs, Cc, d, vs.reverse, hk, hm, rfl, rfl, upd_same, by rw [List.length_reverse]; omega, RUs.ext e2 r1.reverse⟩, q1⟩
    · cases h
  | .tryAs b k i hx, X, sc, nt, C, x, h => by
    unfold chkS at h
    split at h
    · rename_i body x xp n v rp hp pos
      simp only [Bool.and_eq_true, Bool.not_eq_true', decide_eq_true_eq] at h
      obtain ⟨⟨⟨⟨⟨⟨⟨⟨h0, h1⟩, h2⟩, h3⟩, h4⟩, h5⟩, h6⟩, h7⟩, h8⟩ := h
      rw [Option.map_eq_some_iff] at h1
      obtain ⟨⟨x, fs⟩, hk, rfl⟩ := h1
      obtain ⟨⟨Cc, fI, fd, kk, ps, sp, hm, T, To, iC, tI, F1, hr, hb, hl, hsp⟩, db⟩ := C.xcs k x fs hk
      obtain ⟨n1, l1⟩ := loc_of C h4
      refine ⟨fun pins s σ H D I q => ?_⟩
      obtain ⟨B, D0, s0, G, hB, tk, hs, hg, eB, q, P⟩ := q
      rcases hB with hB | hB
      · rw [h0] at hB; cases hB
      subst hB
      have hi : i < X.N.length := by
        rw [List.getElem?_eq_some_iff] at n1
        exact n1.1
      refine (ps_try_as (i := i) (tb := fun W D σ H => ∃ D0 s G, (∀ cls d σ H, Ext X.H_0 H → σ.length = X.N.length → cW X.K X.mg tb.toTab D0.ex cls d σ H → W cls d σ H) ∧ SR X.K H s σ ∧ HR X.K G H ∧ Ext X.H_0 H ∧ trSs tb Γ b D0 s G ∧ Post X.K X.H_0 D0 D)
        (ts := fun a cls d => tRet (cH X.K a i cls d (trH hx))) (Wout := cW X.K X.mg tb.toTab D0.ex) C.stk C.frm C.nd n1 l1 ⟨C.sco.gl _ h2, h3, .inl hm⟩ tk ?_ ?_).run pins s σ H D I ?_
      · intro W pn xe tkW hp
        refine ⟨fun pins s σ H D I q => ?_⟩
        obtain ⟨D1, s1, G1, cw, hs1, hg1, e1, q1, P1⟩ := q
        exact (sSs b (nt := nt) (C.tr pn xe hp) _ h7).run pins s σ H D I ⟨X.H_0, D1, s1, G1, .inr rfl, takes_ext tkW fun c d σ H e l w => cw c d σ H e l w, hs1, hg1, e1, q1, P1⟩
      · intro a oe cls d pn hz hf
        exact pss_one (ps_ret (sH hz hf (fun p => pe_var n1 (.inl l1) h5 h6) hx _ h8))
      · refine ⟨_, s0, G, fun cls d σ' H' e' l' w => ?_, hs, hg, eB, q, ⟨P.nx, P.rt, P.bk, P.ct⟩⟩
        obtain ⟨xn, s1, G1, hs1, hg1, xr, w⟩ := w
        have xr0 := xr
        obtain ⟨x', fs', C', dx, vs, a1, a2, a3, a4, a5, a6, a7⟩ := xr
        obtain ⟨⟨C2, _, _, _, _, _, hm2, T2, _⟩, _⟩ := C.xcs xn.1 x' fs' a1
        rw [a2] at hm2
        cases hm2
        refine ⟨tb.sub xn.1 k, by rw [a3]; exact C.sub xn.1 k x' x fs' fs C' Cc a1 hk a2 hm, fun hb a ha => ?_, fun hb => ?_⟩
        · dsimp only at w
          rw [if_pos hb] at w
          obtain ⟨x2, fs2, b1, w⟩ := w
          rw [a1] at b1
          cases b1
          refine ⟨C', dx, fs', vs, xn.2, G1, D0.rt, List.getElem?_set_self (by omega), a3, T2, a4, a5, a6, a7, hg1, w, fun u G' v H'' q' r' g' e'' _ => P.rt u G' v H'' q' r' g' (e'.trans e'')⟩
        · dsimp only at w
          rw [hb, if_neg Bool.false_ne_true] at w
          exact ⟨xn, s1, G1, hs1, hg1, xr0, w⟩
    · cases h
theorem sSs : ∀ (st : Sms) {X : Cx} {sc : Scope} {nt : Bool}, CtxS X sc tb Γ → ∀ x : List Stmt, chkSs X.N sc tb nt st x = true → PSs X x (cS X tb nt (trSs tb Γ st))
  | .nil, X, sc, nt, C, [], h => by
    refine PSs.weak pss_nil fun D σ H q => ?_
    obtain ⟨B, D0, s0, G, hB, tk, hs, hg, eB, q, P⟩ := q
    exact P.nx s0 G σ H q hs hg eB
  | .nil, X, sc, nt, C, _ :: _, h => by cases h
  | .cons _ _, X, sc, nt, C, [], h => by cases h
  | .cons st ss, X, sc, nt, C, x :: xs, h => by
    simp only [chkSs, Bool.and_eq_true] at h
    refine PSs.weak (pss_cons (sS st C _ h.1) (sSs ss C _ h.2)) fun D σ H q => ?_
    obtain ⟨B, D0, s0, G, hB, tk, hs, hg, eB, q, P⟩ := q
    refine ⟨B, { D0 with nx := fun s1 G1 => trSs tb Γ ss D0 s1 G1 }, s0, G, hB, tk, hs, hg, eB, q, ⟨fun s1 G1 σ1 H1 q1 hs1 hg1 e1 => ?_, P.rt, P.bk, P.ct⟩⟩
    exact ⟨B, D0, s1, G1, hB, tk, hs1, hg1, e1, q1, P⟩
end
end
end UL
set_option Elab.async false
set_option linter.all false
set_option autoImplicit false
set_option maxRecDepth 100000
set_option maxHeartbeats 4000000
/-! UL15: a def keeps its promise. -/
namespace UL
open PySem PySem.Spec L2
def startU (N : List Str) (us : List U) : USt := us.map some ++ List.replicate (N.length - us.length) none
/-- but for what nobody holds any more -/
def fin (Q : UH → Prop) (G : UH) : Prop := ∃ G0, Le G0 G ∧ Q G0
theorem fin.of {Q : UH → Prop} {G : UH} (h : Q G) : fin Q G := ⟨G, .refl G, h⟩
def UD (Q : UK) (E : UXn → UH → Prop) : UE := ⟨fun _ G => fin (Q .non) G, fun u G => fin (Q u) G, fun _ _ => False, fun _ _ => False, fun xn _ G => fin (E xn) G⟩
abbrev Xcs := List (Str × List Str)
/-- a def of the text that keeps sp -/
structure Av (P : Program) (w : World) (K : PySem.W.Frag) (mg : Str → Option Value) (base : Heap) (xcs : Xcs) (k : Nat) (x : Str) (sp : USp) : Prop where
  ex : ∃ (f : Addr) (fd : FuncData) (ps : List Str), mg x = some (.ref f) ∧ PySem.W.keepIn K (.ref f) = true ∧ Binds K fd ps [] ∧ FnOk P w K mg base (CX P w) k f fd ps (cSp K mg ⟨[], [], xcs⟩ sp)
  db : (x == ("__debug__" : Str)) = false
structure AvX (P : Program) (w : World) (K : PySem.W.Frag) (mg : Str → Option Value) (base : Heap) (k : Nat) (x : Str) (fs : List Str) : Prop where
  ex : ∃ (C fI : Addr) (fd : FuncData) (ps : List Str) (sp : Sp), mg x = some (.ref C) ∧ XcCls K C fs ∧ OexC K C ∧ PySem.W.findIn K (.ref C) "__init__" = some (some (.ref fI)) ∧ PySem.W.typeIn K (.ref fI) = some (.type "function") ∧
    FnOk P w K mg base (CX P w) k fI fd ps sp ∧ Binds K fd ps [] ∧ fs.length ≤ 900 ∧
    ∀ (a : Addr) (ws : List V) (H : Hp) (Q : VK), ws.length = fs.length → H a = some (exo a C none) → (∀ d, H d = none → d ≠ a → Q .non (upd (upd H d (exd d (fs.zip ws.reverse))) a (exo a C (some d)))) → sp (.ref a :: ws) H Q (fun _ _ _ => False)
  db : (x == ("__debug__" : Str)) = false
/-- the written part, but for the defs -/
structure Wd (P : Program) (w : World) (K : PySem.W.Frag) (mg : Str → Option Value) (base : Heap) (xcs : Xcs) (sub : Nat → Nat → Bool) (gls : List (Str × U)) (k : Nat) : Prop where
  gls : ∀ p ∈ gls, ∃ w v, mg p.1 = some w ∧ RelV v w ∧ (∀ H, RU K H p.2 v) ∧ (p.1 == ("__debug__" : Str)) = false
  blt : ∀ x ∈ bltNames, mg x = none
  xc : ∀ p ∈ xcs, AvX P w K mg base k p.1 p.2
  sub : ∀ (i j : Nat) (x y : Str) (fs gs : List Str) (C D : Addr), xcs[i]? = some (x, fs) → xcs[j]? = some (y, gs) → mg x = some (.ref C) → mg y = some (.ref D) → PySem.W.exmOne K (.ref C) (.ref D) = some (sub i j)
def spAt : List (Str × USp) → Nat → USp
  | [], _ => fun _ _ _ _ => False
  | p :: _, 0 => p.2
  | _ :: r, i + 1 => spAt r i
def glAt : List (Str × U) → Nat → U
  | [], _ => .non
  | p :: _, 0 => p.2
  | _ :: r, i + 1 => glAt r i
def gam (cl : List (Str × USp)) (gls : List (Str × U)) : Gam := ⟨spAt cl, glAt gls⟩
def tabOf (cl : List (Str × USp)) (gls : List (Str × U)) (xcs : Xcs) (sub : Nat → Nat → Bool) : Tab2 := ⟨⟨cl.map (·.1), gls.map (·.1), xcs⟩, sub⟩
theorem spAt_ix : ∀ {cl : List (Str × USp)} {i : Nat} {x : Str}, (cl.map (·.1))[i]? = some x → (x, spAt cl i) ∈ cl
  | [], _, _, h => by simp at h
  | p :: _, 0, x, h => by simp at h; subst h; exact List.mem_cons_self
  | p :: r, i + 1, x, h => List.mem_cons_of_mem _ (spAt_ix (cl := r) (i := i) (by simpa using h))
theorem glAt_ix : ∀ {cl : List (Str × U)} {i : Nat} {x : Str}, (cl.map (·.1))[i]? = some x → (x, glAt cl i) ∈ cl
  | [], _, _, h => by simp at h
  | p :: _, 0, x, h => by simp at h; subst h; exact List.mem_cons_self
  | p :: r, i + 1, x, h => List.mem_cons_of_mem _ (glAt_ix (cl := r) (i := i) (by simpa using h))
theorem start_rel {K : PySem.W.Frag} {H : Hp} {N : List Str} {us : List U} {vs : List V} (r : RUs K H us vs) : SR K H (startU N us) (L2.start N vs) := by
  have l := r.length
  refine ⟨by simp [startU, L2.start, l], fun i u h => ?_⟩
  unfold startU at h
  by_cases hi : i < us.length
  · rw [List.getElem?_append_left (by simpa using hi)] at h
    rw [List.getElem?_map] at h
    cases e : us[i]? with
    | none => rw [e] at h; cases h
    | some u' =>
      rw [e] at h
      simp at h
      subst h
      obtain ⟨v, h1, h2⟩ := r.get e
      refine ⟨v, ?_, h2⟩
      unfold L2.start
      rw [List.getElem?_append_left (by simpa [← l] using hi), List.getElem?_map, h1]
      rfl
  · rw [List.getElem?_append_right (by simpa using hi)] at h
    rw [List.getElem?_replicate] at h
    split at h <;> cases h
section
variable {P : Program} {w : World} {K : PySem.W.Frag} {mg : Str → Option Value} {base : Heap} {xcs : Xcs} {sub : Nat → Nat → Bool} {gls : List (Str × U)} {cl : List (Str × USp)} {k : Nat}
theorem Av.mono {j : Nat} {x : Str} {sp : USp} (h : Av P w K mg base xcs j x sp) (l : j ≤ k) : Av P w K mg base xcs k x sp := by
  obtain ⟨f, fd, ps, h1, h2, h3, h4⟩ := h.ex
  exact ⟨⟨f, fd, ps, h1, h2, h3, h4.mono l⟩, h.db⟩
theorem AvX.mono {j : Nat} {x : Str} {fs : List Str} (h : AvX P w K mg base j x fs) (l : j ≤ k) : AvX P w K mg base k x fs := by
  obtain ⟨C, fI, fd, ps, sp, h1, h2, h3, h4, h5, h6, h7, h8, h9⟩ := h.ex
  exact ⟨⟨C, fI, fd, ps, sp, h1, h2, h3, h4, h5, h6.mono l, h7, h8, h9⟩, h.db⟩
theorem Wd.mono {j : Nat} (W : Wd P w K mg base xcs sub gls j) (l : j ≤ k) : Wd P w K mg base xcs sub gls k := ⟨W.gls, W.blt, fun p hp => (W.xc p hp).mono l, W.sub⟩
theorem vis_of {sc : Scope} {x : Str} (h : visB sc x = true) : Vis sc x := by
  unfold visB at h
  simp only [Bool.or_eq_true, decide_eq_true_eq] at h
  rcases h with (h | h) | h
  · exact .inl h
  · exact .inr (.inl h)
  · exact .inr (.inr h)
theorem loc_of' {sc : Scope} {x : Str} (h : locB sc x = true) : Loc sc x := by
  unfold locB at h
  simp only [Bool.or_eq_true, decide_eq_true_eq] at h
  exact h
/-- the context of a def's body -/
theorem ctx_def {qual : Str} {scope : Scope} {N : List Str} {f : Addr} {cd : Value} {A : Around} {outer : List Env} {s : Shared} {H : Hp} {E : XK} (W : Wd P w K mg base xcs sub gls k) (hcl : ∀ p ∈ cl, Av P w K mg base xcs (k + 1) p.1 p.2) (kn : scope.kind = .function) (nd : N.Nodup)
    (hr : Room (k + 1) (A.deeper (PyProof.Rows.envOfC qual scope s.heap.objs.size f cd))) : CtxS (cxOf (L2.CX P w) P w K mg base N qual scope f cd A outer s H E) scope (tabOf cl gls xcs sub) (gam cl gls) where
  sco := ⟨fun x h => vis_of h, fun x h => ⟨loc_of' h, .inl rfl⟩, fun x h => of_decide_eq_true (p := scope.names.lookup x = some .globalImplicit) h, fun x h => h⟩
  nd := nd
  calm := rfl
  hu := hr.units
  fns := fun i x h => by
    obtain ⟨⟨f, fd, ps, h1, h2, h3, h4⟩, db⟩ := hcl _ (spAt_ix h)
    exact ⟨⟨k + 1, f, fd, ps, h1, h2, hr, h3, h4⟩, db⟩
  gls := fun i x h => W.gls _ (glAt_ix h)
  blt := W.blt
  scE := rfl
  knd := kn
  own := passes_of rfl
  stk := rfl
  frm := rfl
  xcs := fun i x fs h => by
    obtain ⟨⟨C, fI, fd, ps, sp, h1, h2, h3, h4, h5, h6, h7, h8, h9⟩, db⟩ := W.xc (x, fs) (List.mem_of_getElem? h)
    exact ⟨⟨C, fI, fd, k, ps, sp, h1, h2, h3, h4, h5, h6, hr, h7, h8, h9⟩, db⟩
  sub := W.sub
theorem def_ok {x qual : Str} {st : Stmt} {f : Addr} {fd : FuncData} {N ps : List Str} {sp : USp} {body : Sms} (W : Wd P w K mg base xcs sub gls k) (hcl : ∀ p ∈ cl, Av P w K mg base xcs (k + 1) p.1 p.2) (F : Fun K x qual st f fd) (S : FnScope N ps (defScope st))
    (hc : chkSs N (defScope st) (tabOf cl gls xcs sub) false body (defBody st) = true) (hlen : ∀ us G Q E, sp us G Q E → us.length = ps.length)
    (hb : ∀ us G Q E, sp us G Q E → trSs (tabOf cl gls xcs sub) (gam cl gls) body (UD Q E) (startU N us) G) : FnOk P w K mg base (L2.CX P w) (k + 2) f fd ps (cSp K mg ⟨[], [], xcs⟩ sp) := by
  refine F.okX S (fun vs H Q E h => ?_) (fun cdv A outer s H vs Q E hr h => ?_)
  · obtain ⟨us, G, Q0, E0, r, hg, h, _⟩ := h
    rw [← r.length]
    exact hlen us G Q0 E0 h
  · obtain ⟨us, G, Q0, E0, r, hg, h, k1, k2⟩ := h
    have C := ctx_def (qual := qual) (scope := defScope st) (N := N) (f := f) (cd := cdv) (A := A) (outer := outer) (s := s) (H := H) (E := E) W hcl S.kind S.nd hr
    refine ⟨_, sSs body C _ hc, H, UD Q0 E0, startU N us, G, .inr rfl, ?_, start_rel r, hg, .refl, hb us G Q0 E0 h, ⟨?_, ?_, ?_, ?_⟩⟩
    · refine takes_ext (L2.takes_of (E := E) rfl rfl rfl rfl) fun cls d σ' H' e l wv => ?_
      obtain ⟨xn, s1, G1, hs1, hg1, xr, G0, le, w0⟩ := wv
      exact k2 xn G0 cls d H' w0 xr (hg1.le le) e
    · rintro s1 G1 σ1 H1 ⟨G0, le, q⟩ hs1 hg1 e1
      exact k1 .non G0 .non H1 q .non (hg1.le le) e1
    · rintro u G1 v H1 ⟨G0, le, q⟩ ru hg1 e1
      exact k1 u G0 v H1 q ru (hg1.le le) e1
    · intro _ _ _ _ z
      exact z.elim
    · intro _ _ _ _ z
      exact z.elim
theorem def_av {x : Str} {st : Stmt} {f : Addr} {fd : FuncData} {N ps : List Str} {sp : USp} {body : Sms} (W : Wd P w K mg base xcs sub gls k) (hcl : ∀ p ∈ cl, Av P w K mg base xcs (k + 1) p.1 p.2) (F : Fun K x x st f fd) (hm : mg x = some (.ref f)) (hb' : Binds K fd ps []) (db : (x == ("__debug__" : Str)) = false) (S : FnScope N ps (defScope st))
    (hc : chkSs N (defScope st) (tabOf cl gls xcs sub) false body (defBody st) = true) (hlen : ∀ us G Q E, sp us G Q E → us.length = ps.length)
    (hb : ∀ us G Q E, sp us G Q E → trSs (tabOf cl gls xcs sub) (gam cl gls) body (UD Q E) (startU N us) G) : Av P w K mg base xcs (k + 2) x sp :=
  ⟨⟨f, fd, ps, hm, F.kp, hb', def_ok W hcl F S hc hlen hb⟩, db⟩
end
/-! ### an exception's own __init__ -/
section
variable {P : Program} {w : World} {K : PySem.W.Frag} {mg : Str → Option Value} {base : Heap}
def init2 (p1 p2 p3 p4 q1 q2 q3 q4 : Pos) (f g x y : Str) : List Stmt := [.Assign [.Attribute (.Name "self" p1) f p2] (.Name x p3) p4, .Assign [.Attribute (.Name "self" q1) g q2] (.Name y q3) q4]
def init1 (p1 p2 p3 p4 : Pos) (f x : Str) : List Stmt := [.Assign [.Attribute (.Name "self" p1) f p2] (.Name x p3) p4]
def spI2 (C : Addr) (f g : Str) : Sp := fun vs H Q _ => ∃ a x y, vs = [.ref a, x, y] ∧ H a = some (exo a C none) ∧ ∀ d, H d = none → d ≠ a → Q .non (upd (upd H d (exd d [(g, y), (f, x)])) a (exo a C (some d)))
def spI1 (C : Addr) (f : Str) : Sp := fun vs H Q _ => ∃ a x, vs = [.ref a, x] ∧ H a = some (exo a C none) ∧ ∀ d, H d = none → d ≠ a → Q .non (upd (upd H d (exd d [(f, x)])) a (exo a C (some d)))
theorem two_upd {H : Hp} {a d : Addr} {x y z : HO} (h : d ≠ a) : upd (upd (upd H d x) a y) d z = upd (upd H d z) a y := by
  funext b
  by_cases h1 : b = d
  · subst h1; rw [upd_same, upd_ne h, upd_same]
  · by_cases h2 : b = a
    · subst h2; rw [upd_ne h1, upd_same, upd_same]
    · rw [upd_ne h1, upd_ne h2, upd_ne h1, upd_ne h2, upd_ne h1]
theorem init2_ok {qual x y f g : Str} {st : Stmt} {fI C : Addr} {fd : FuncData} {k : Nat} {p1 p2 p3 p4 q1 q2 q3 q4 : Pos} (F : Fun K "__init__" qual st fI fd) (S : FnScope ["self", x, y] ["self", x, y] (defScope st)) (hb : defBody st = init2 p1 p2 p3 p4 q1 q2 q3 q4 f g x y)
    (T : OexC K C) (nf : PySem.W.findIn K (.ref C) f = some none) (ng : PySem.W.findIn K (.ref C) g = some none) (v0 : (defScope st).names.lookup ("self" : Str) = some .local) (v1 : (defScope st).names.lookup x = some .local) (v2 : (defScope st).names.lookup y = some .local)
    (d1 : (x == ("__debug__" : Str)) = false) (d2 : (y == ("__debug__" : Str)) = false) (c1 : (x == ("__classdict__" : Str)) = false) (c2 : (y == ("__classdict__" : Str)) = false) : FnOk P w K mg base (L2.CX P w) (k + 1) fI fd ["self", x, y] (spI2 C f g) := by
  refine F.okX S (fun vs H Q E h => ?_) (fun cdv A outer s H vs Q E hr h => ⟨tSeq (tOst K f (tVar 0) (tVar 1)) (tOst K g (tVar 0) (tVar 2)), ?_, ?_⟩)
  · obtain ⟨a, u, v, rfl, _⟩ := h
    rfl
  · rw [hb]
    exact pss_cons (ps_ost (pe_var (i := 0) rfl (.inl v0) (by decide) (by decide)) (pe_var (i := 1) rfl (.inl v1) d1 c1)) (pss_one (ps_ost (pe_var (i := 0) rfl (.inl v0) (by decide) (by decide)) (pe_var (i := 2) rfl (.inl v2) d2 c2)))
  · obtain ⟨a, u, v, rfl, ha, kq⟩ := h
    refine ⟨u, rfl, .ref a, rfl, a, C, rfl, T, nf, .inl ⟨ha, fun dx hd hne => ⟨v, rfl, .ref a, rfl, a, C, rfl, T, ng, .inr ⟨dx, [(f, u)], upd_same, (upd_ne hne).trans upd_same, Nat.le_of_ble_eq_true rfl, ?_⟩⟩⟩⟩
    rw [two_upd hne]
    exact kq dx hd hne
theorem init1_ok {qual x f : Str} {st : Stmt} {fI C : Addr} {fd : FuncData} {k : Nat} {p1 p2 p3 p4 : Pos} (F : Fun K "__init__" qual st fI fd) (S : FnScope ["self", x] ["self", x] (defScope st)) (hb : defBody st = init1 p1 p2 p3 p4 f x)
    (T : OexC K C) (nf : PySem.W.findIn K (.ref C) f = some none) (v0 : (defScope st).names.lookup ("self" : Str) = some .local) (v1 : (defScope st).names.lookup x = some .local)
    (d1 : (x == ("__debug__" : Str)) = false) (c1 : (x == ("__classdict__" : Str)) = false) : FnOk P w K mg base (L2.CX P w) (k + 1) fI fd ["self", x] (spI1 C f) := by
  refine F.okX S (fun vs H Q E h => ?_) (fun cdv A outer s H vs Q E hr h => ⟨tOst K f (tVar 0) (tVar 1), ?_, ?_⟩)
  · obtain ⟨a, u, rfl, _⟩ := h
    rfl
  · rw [hb]
    exact pss_one (ps_ost (pe_var (i := 0) rfl (.inl v0) (by decide) (by decide)) (pe_var (i := 1) rfl (.inl v1) d1 c1))
  · obtain ⟨a, u, rfl, ha, kq⟩ := h
    exact ⟨u, rfl, .ref a, rfl, a, C, rfl, T, nf, .inl ⟨ha, fun dx hd hne => kq dx hd hne⟩⟩
theorem avx2 {cn qual x y f g : Str} {st : Stmt} {fI C : Addr} {fd : FuncData} {k : Nat} {p1 p2 p3 p4 q1 q2 q3 q4 : Pos} (hm : mg cn = some (.ref C)) (db : (cn == ("__debug__" : Str)) = false) (X : XcCls K C [g, f]) (T : OexC K C) (iC : PySem.W.findIn K (.ref C) "__init__" = some (some (.ref fI))) (tI : PySem.W.typeIn K (.ref fI) = some (.type "function"))
    (F : Fun K "__init__" qual st fI fd) (bd : Binds K fd ["self", x, y] []) (S : FnScope ["self", x, y] ["self", x, y] (defScope st)) (hb : defBody st = init2 p1 p2 p3 p4 q1 q2 q3 q4 f g x y)
    (v0 : (defScope st).names.lookup ("self" : Str) = some .local) (v1 : (defScope st).names.lookup x = some .local) (v2 : (defScope st).names.lookup y = some .local)
    (d1 : (x == ("__debug__" : Str)) = false) (d2 : (y == ("__debug__" : Str)) = false) (c1 : (x == ("__classdict__" : Str)) = false) (c2 : (y == ("__classdict__" : Str)) = false) : AvX P w K mg base (k + 1) cn [g, f] :=
  ⟨⟨C, fI, fd, ["self", x, y], spI2 C f g, hm, X, T, iC, tI, init2_ok F S hb T (X.noN f (by simp)) (X.noN g (by simp)) v0 v1 v2 d1 d2 c1 c2, bd, Nat.le_of_ble_eq_true rfl, fun a ws H Q hl ha hk => by
    match ws, hl with
    | [u, v], _ => exact ⟨a, u, v, rfl, ha, hk⟩⟩, db⟩
theorem avx1 {cn qual x f : Str} {st : Stmt} {fI C : Addr} {fd : FuncData} {k : Nat} {p1 p2 p3 p4 : Pos} (hm : mg cn = some (.ref C)) (db : (cn == ("__debug__" : Str)) = false) (X : XcCls K C [f]) (T : OexC K C) (iC : PySem.W.findIn K (.ref C) "__init__" = some (some (.ref fI))) (tI : PySem.W.typeIn K (.ref fI) = some (.type "function"))
    (F : Fun K "__init__" qual st fI fd) (bd : Binds K fd ["self", x] []) (S : FnScope ["self", x] ["self", x] (defScope st)) (hb : defBody st = init1 p1 p2 p3 p4 f x)
    (v0 : (defScope st).names.lookup ("self" : Str) = some .local) (v1 : (defScope st).names.lookup x = some .local)
    (d1 : (x == ("__debug__" : Str)) = false) (c1 : (x == ("__classdict__" : Str)) = false) : AvX P w K mg base (k + 1) cn [f] :=
  ⟨⟨C, fI, fd, ["self", x], spI1 C f, hm, X, T, iC, tI, init1_ok F S hb T (X.noN f (by simp)) v0 v1 d1 c1, bd, Nat.le_of_ble_eq_true rfl, fun a ws H Q hl ha hk => by
    match ws, hl with
    | [u], _ => exact ⟨a, u, rfl, ha, hk⟩⟩, db⟩
end
end UL
set_option Elab.async false
set_option linter.all false
set_option autoImplicit false
set_option maxRecDepth 100000
set_option maxHeartbeats 4000000
/-! UL16: the head's facts; the end of a law. -/
namespace UL
open PySem PySem.Spec L2
section
variable {P : Program} {w : World} {K : PySem.W.Frag} {mg : Str → Option Value} {base : Heap} {xcs : Xcs} {sub : Nat → Nat → Bool} {gls : List (Str × U)} {cl : List (Str × USp)} {k : Nat}
theorem funD_fun {x qual : Str} {st : Stmt} {f : Addr} {fd : FuncData} (F : FunD K x qual (defArgs st) (defBody st) (defScope st) [] [] f fd) : Fun K x qual st f fd := by
  obtain ⟨oc, od, dV, kV, doc, pm, an, cdv, ct, osl, rfl, lk, hcd, hD, hK⟩ := F.ex
  have e : dV = .none := by
    rcases hD with ⟨_, e⟩ | ⟨e, _⟩
    · exact e
    · exact absurd rfl e
  subst e
  exact ⟨⟨oc, od, kV, doc, pm, an, cdv, ct, osl, rfl, lk, hcd⟩, F.kp⟩
/-! ### an exception class by its facts -/
def oexB (K : PySem.W.Frag) (C : Addr) : Bool := match K.lookup C with
  | some ⟨.type "type", _, .cls cd, sl⟩ => (match cd.mro, sl.toList with
    | .ref C' :: bm, [_, _, _, _, some (.builtin n), _] => C' == C && n == "ValueError.__new__" && !cd.hasDel && cd.hasDict && PySem.HandSPX.refsVE bm
    | _, _ => false)
  | _ => false
theorem oex_cls {C : Addr} (q : oexB K C = true) : ∃ nm q N bs bm sn sub ab col dd k0 k1 k2 k3 k5, K.lookup C = some (excClassObj nm q C N bs bm true sn sub ab col dd k0 k1 k2 k3 k5 "ValueError.__new__") ∧ PySem.HandSPX.refsVE bm = true := by
  unfold oexB at q
  split at q
  · rename_i dd cd sl ho
    split at q
    · rename_i C' bm k0 k1 k2 k3 n k5 hm hs
      simp only [Bool.and_eq_true, beq_iff_eq, Bool.not_eq_true'] at q
      obtain ⟨⟨⟨⟨rfl, rfl⟩, hdel⟩, hdict⟩, hv⟩ := q
      obtain ⟨nm, bs, mro, ns, qn, hd, sn, sub, ab, col, del⟩ := cd
      dsimp only at hm hdel hdict
      subst hm hdel hdict
      have hsl : sl = #[k0, k1, k2, k3, some (.builtin "ValueError.__new__"), k5] := by
        obtain ⟨l⟩ := sl
        simp only at hs
        rw [hs]
      subst hsl
      exact ⟨nm, qn, ns, bs, bm, sn, sub, ab, col, dd, k0, k1, k2, k3, k5, ho, hv⟩
    · cases q
  · cases q
def xcB (K : PySem.W.Frag) (p : Str × List Str) : Bool :=
  oexB K (He.ga K p.1) && (He.eqO (PySem.W.findIn K (.ref (He.ga K p.1)) "__setattr__") (some (some (.builtin "object.__setattr__"))) && (He.eqO (PySem.W.findIn K (.ref (He.ga K p.1)) "__getattribute__") (some (some (.builtin "BaseException.__getattribute__"))) &&
    (He.eqO (PySem.W.findIn K (.ref (He.ga K p.1)) "__getattr__") (some none) && (decide (PySem.W.subIn K (.ref (He.ga K p.1)) (.type "BaseException") = some true) && (decide (PySem.W.typeIn K (.ref (He.ga K p.1)) = some (.type "type")) &&
      (PySem.W.keepIn K (.ref (He.ga K p.1)) && (PySem.W.hasDictIn K (He.ga K p.1) && (p.2.all (fun f => He.eqO (PySem.W.findIn K (.ref (He.ga K p.1)) f) (some none)) && (He.eqO (PySem.W.findIn K (.ref (He.ga K p.1)) "__init__") (some (some (.ref (He.ma K (He.ga K p.1) "__init__")))) &&
        decide (PySem.W.typeIn K (.ref (He.ma K (He.ga K p.1) "__init__")) = some (.type "function")))))))))))
structure XcF (K : PySem.W.Frag) (x : Str) (fs : List Str) : Prop where
  c : XcCls K (He.ga K x) fs
  o : OexC K (He.ga K x)
  i : PySem.W.findIn K (.ref (He.ga K x)) "__init__" = some (some (.ref (He.ma K (He.ga K x) "__init__")))
  t : PySem.W.typeIn K (.ref (He.ma K (He.ga K x) "__init__")) = some (.type "function")
theorem xc_of {x : Str} {fs : List Str} (h : xcB K (x, fs) = true) : XcF K x fs := by
  unfold xcB at h
  simp only [Bool.and_eq_true, decide_eq_true_eq] at h
  obtain ⟨h1, h2, h3, h4, h5, h6, h7, h8, h9, h10, h11⟩ := h
  exact ⟨⟨He.eqO_ok h3, He.eqO_ok h4, h5, h8, fun f hf => He.eqO_ok (List.all_eq_true.mp h9 f hf)⟩, ⟨oex_cls h1, He.eqO_ok h2, h5, h6, h7⟩, He.eqO_ok h10, h11⟩
end
/-! ### the hook -/
abbrev AlU : Type := He.AlD × Bool
def obsU (n : Nat) (fa : List He.Fa) (fn : List He.DefD) (ex : PySem.W.Frag → Bool) (g : Addr → Option Obj) : AlU := (He.obsDG n fa fn g, ex (He.frG g (He.asD g n)))
def hookU (n : Nat) (fa : List He.Fa) (fn : List He.DefD) (ex : PySem.W.Frag → Bool) : PySem.W.Hook where
  α := AlU
  obs := fun s => obsU n fa fn ex s.heap.get?
  val := fun _ => (He.valD fn, true)
  says := fun _ h => ∃ K : PySem.W.Frag, K.In h ∧ He.SaysD fa fn K ∧ ex K = true
  of := fun _ s e => ⟨_, He.frG_in, congrArg (fun z : AlU => z.1) e, congrArg (fun z : AlU => z.2) e⟩
  keeps := fun _ _ _ ⟨K, hK, c⟩ k => ⟨K, PySem.W.Frag.In.keeps hK k, c⟩
theorem obsU_eq {n : Nat} {fa : List He.Fa} {fn : List He.DefD} {ex : PySem.W.Frag → Bool} {g : Addr → Option Obj} {s : Shared} (h : ∀ a, g a = s.heap.get? a) : obsU n fa fn ex g = (hookU n fa fn ex).obs s := by
  have e : g = s.heap.get? := funext h
  rw [e] <;> rfl
/-! ### the law's end -/
theorem sp_law {K : PySem.W.Frag} {mg : Str → Option Value} {xcs : Xcs} {sp : USp} {H : Hp} {a : Addr} {ns : List Int} (hO : Only H) (hS : SqL K H a (ns.map V.int)) (h : sp [.rol (ns.map U.int)] (fun _ => none) (fun u _ => u = .bl true) (fun _ _ => False)) :
    cSp K mg ⟨[], [], xcs⟩ sp [.ref a] H (fun v _ => v = .bl true) (fun _ _ _ => False) := by
  have fz : Frz K H a (ns.map V.int) := by
    rcases hS with (h1 | h1) | h1
    · rcases hO a with e | ⟨o, xs, e⟩
      · rw [e] at h1; cases h1
      · rw [e] at h1; cases h1
    · exact .inl h1
    · exact .inr h1
  refine ⟨_, fun _ => none, _, _, .cons (.rol fz (RUs.of_ints ns)) .nil, (fun a o e => by cases e), h, (fun u G' v H' q r _ _ => ?_), (fun _ _ _ _ _ z => False.elim z)⟩
  subst q
  cases r
  rfl
end UL
set_option Elab.async false
set_option linter.all false
set_option autoImplicit false
set_option maxRecDepth 100000
set_option maxHeartbeats 4000000
/-! UL17: words for the proofs over the layer. -/
namespace UL
open PySem PySem.Spec L2
theorem line_ge : 16777216 ≤ sizeLine := by rw [sizeLine_eq]; exact Nat.le_refl _
theorem uC_s {u : U} {s : USt} {G : UH} {Q : UK} : uC u s G Q = Q u G := propext ⟨id, id⟩
theorem uVar_s {i : Nat} {s : USt} {G : UH} {Q : UK} : uVar i s G Q = (match getS s i with
  | some u => Q u G
  | none => False) := propext ⟨id, id⟩
theorem uBin_s {r : UOp} {ta tb : UT} {s : USt} {G : UH} {Q : UK} : uBin r ta tb s G Q = ta s G fun x G1 => tb s G1 fun y G2 => r x y G2 Q := propext ⟨id, id⟩
theorem uUn_s {r : U → UH → UK → Prop} {ta : UT} {s : USt} {G : UH} {Q : UK} : uUn r ta s G Q = ta s G fun x G1 => r x G1 Q := propext ⟨id, id⟩
theorem mulL {i j : Int} (h : -(2 ^ 64) < i) (h' : i < 2 ^ 64) : MulOk i j := .inl (.inl ⟨h, h'⟩)
theorem mulR {i j : Int} (h : -(2 ^ 64) < j) (h' : j < 2 ^ 64) : MulOk i j := .inl (.inr ⟨h, h'⟩)
theorem divS {i j : Int} (h : 0 < j) (h' : j < 1073741824) : DivOk i j := .inl ⟨h, h'⟩
def isI : U → Bool
  | .int _ => true
  | _ => false
def tyS (G : UH) (u : U) : Prop := (tyN G u).isSome = true
/-- what stays: all but what stands at p and g -/
def Fr (p g : Addr) (G G' : UH) : Prop := ∀ a o, a ≠ p → a ≠ g → G a = some o → G' a = some o
theorem Fr.refl (p g : Addr) (G : UH) : Fr p g G G := fun _ _ _ _ h => h
theorem Fr.trans {p g : Addr} {G1 G2 G3 : UH} (a : Fr p g G1 G2) (b : Fr p g G2 G3) : Fr p g G1 G3 := fun c o h1 h2 h => b c o h1 h2 (a c o h1 h2 h)
theorem Fr.of_le {p g : Addr} {G G' : UH} (h : Le G G') : Fr p g G G' := fun a o _ _ e => h a o e
theorem Le.up {G G' : UH} {p : Addr} {o : UO} (h : Le G G') : Le (up G p o) (up G' p o) := fun a q e => by
  by_cases z : a = p
  · subst z; rw [up_same] at e ⊢; exact e
  · rw [up_ne z] at e ⊢; exact h a q e
/-- a comprehension whose turns leave the heap as it is -/
theorem lcU_pure {ds : Deps} {p : Addr} {g : U → (USt → UH → Prop) → UH → Prop} {tt : USt → UH → (Bool → UH → Prop) → Prop} {te : USt → UH → UK → Prop} {Q : UK} {G0 : UH} (c : U → Bool) (f : U → U) (hd : ∀ acc, depsOk (up G0 p (.lst acc)) ds) :
    ∀ (ys acc : List U), acc.length + ys.length ≤ sizeLine →
      (∀ y ∈ ys, ∀ (acc : List U) (K1 : UK) (K0 : UH → Prop), (c y = true → K1 (f y) (up G0 p (.lst acc))) → (c y = false → K0 (up G0 p (.lst acc))) → g y (fun s1 G1 => tt s1 G1 fun b G2 => if b = true then te s1 G2 K1 else K0 G2) (up G0 p (.lst acc))) →
      Q (.ref p) (up G0 p (.lst (acc ++ (ys.filter c).map f))) → lcU ds p g tt te Q ys acc (up G0 p (.lst acc))
  | [], acc, _, _, q => ⟨hd acc, up_same, by simpa using q⟩
  | y :: ys, acc, hl, ht, q => by
    refine ⟨hd acc, up_same, ht y List.mem_cons_self acc _ _ (fun hc => ⟨up_same, by simp only [List.length_cons] at hl; omega, _, .refl _, ?_⟩) (fun hc => ⟨_, .refl _, ?_⟩)⟩
    · rw [up_up]
      refine lcU_pure c f hd ys (acc ++ [f y]) (by simp only [List.length_cons, List.length_append, List.length_nil] at hl ⊢; omega) (fun z hz => ht z (List.mem_cons_of_mem _ hz)) ?_
      rw [List.filter_cons, if_pos hc] at q
      simpa using q
    · refine lcU_pure c f hd ys acc (by simp only [List.length_cons] at hl; omega) (fun z hz => ht z (List.mem_cons_of_mem _ hz)) ?_
      rw [List.filter_cons, if_neg (by rw [hc]; exact Bool.false_ne_true)] at q
      exact q
theorem lcU_map {ds : Deps} {p : Addr} {g : U → (USt → UH → Prop) → UH → Prop} {tt : USt → UH → (Bool → UH → Prop) → Prop} {te : USt → UH → UK → Prop} {Q : UK} {G0 : UH} (f : U → U) (hd : ∀ acc, depsOk (up G0 p (.lst acc)) ds)
    (ys acc : List U) (hl : acc.length + ys.length ≤ sizeLine)
      (ht : ∀ y ∈ ys, ∀ (acc : List U) (K1 : UK) (K0 : UH → Prop), K1 (f y) (up G0 p (.lst acc)) → g y (fun s1 G1 => tt s1 G1 fun b G2 => if b = true then te s1 G2 K1 else K0 G2) (up G0 p (.lst acc)))
      (q : Q (.ref p) (up G0 p (.lst (acc ++ ys.map f)))) : lcU ds p g tt te Q ys acc (up G0 p (.lst acc)) := by
  refine lcU_pure (fun _ => true) f hd ys acc hl (fun y hy acc K1 K0 k1 _ => ht y hy acc K1 K0 (k1 rfl)) ?_
  rw [show ys.filter (fun _ => true) = ys from List.filter_eq_self.mpr fun _ _ => rfl]
  exact q
theorem lcK_pure {ds : Deps} {p : Addr} {g : U → (USt → UH → Prop) → UH → Prop} {tt : USt → UH → (Bool → UH → Prop) → Prop} {te : USt → UH → UK → Prop} {K : List U → UH → Prop} {G0 : UH} (c : U → Bool) (f : U → U) (hd : ∀ acc, depsOk (up G0 p (.lst acc)) ds) :
    ∀ (ys acc : List U), acc.length + ys.length ≤ sizeLine →
      (∀ y ∈ ys, ∀ (acc : List U) (K1 : UK) (K0 : UH → Prop), (c y = true → K1 (f y) (up G0 p (.lst acc))) → (c y = false → K0 (up G0 p (.lst acc))) → g y (fun s1 G1 => tt s1 G1 fun b G2 => if b = true then te s1 G2 K1 else K0 G2) (up G0 p (.lst acc))) →
      K (acc ++ (ys.filter c).map f) (up G0 p (.lst (acc ++ (ys.filter c).map f))) → lcK ds p g tt te K ys acc (up G0 p (.lst acc))
  | [], acc, _, _, q => ⟨hd acc, up_same, by simpa using q⟩
  | y :: ys, acc, hl, ht, q => by
    refine ⟨hd acc, up_same, ht y List.mem_cons_self acc _ _ (fun hc => ⟨up_same, by simp only [List.length_cons] at hl; omega, _, .refl _, ?_⟩) (fun hc => ⟨_, .refl _, ?_⟩)⟩
    · rw [up_up]
      refine lcK_pure c f hd ys (acc ++ [f y]) (by simp only [List.length_cons, List.length_append, List.length_nil] at hl ⊢; omega) (fun z hz => ht z (List.mem_cons_of_mem _ hz)) ?_
      rw [List.filter_cons, if_pos hc] at q
      simpa using q
    · refine lcK_pure c f hd ys acc (by simp only [List.length_cons] at hl; omega) (fun z hz => ht z (List.mem_cons_of_mem _ hz)) ?_
      rw [List.filter_cons, if_neg (by rw [hc]; exact Bool.false_ne_true)] at q
      exact q
theorem lc2U_pure {ds : Deps} {p : Addr} {g : U → (USt → UH → Prop) → UH → Prop} {tt : USt → UH → (Bool → UH → Prop) → Prop} {inner : USt → UH → List U → (List U → UH → Prop) → Prop} {Q : UK} {G0 : UH} (f : U → List U) (hd : ∀ acc, depsOk (up G0 p (.lst acc)) ds) :
    ∀ (ys acc : List U), acc.length + (ys.flatMap f).length ≤ sizeLine →
      (∀ y ∈ ys, ∀ (acc : List U) (K : List U → UH → Prop) (K0 : UH → Prop), acc.length + (f y).length ≤ sizeLine → K (acc ++ f y) (up G0 p (.lst (acc ++ f y))) → g y (fun s1 G1 => tt s1 G1 fun b G2 => if b = true then inner s1 G2 acc K else K0 G2) (up G0 p (.lst acc))) →
      Q (.ref p) (up G0 p (.lst (acc ++ ys.flatMap f))) → lc2U ds p g tt inner Q ys acc (up G0 p (.lst acc))
  | [], acc, _, _, q => ⟨hd acc, up_same, by simpa using q⟩
  | y :: ys, acc, hl, ht, q => by
    rw [List.flatMap_cons, List.length_append] at hl
    refine ⟨hd acc, up_same, ht y List.mem_cons_self acc _ _ (by omega) ⟨_, .refl _, ?_⟩⟩
    refine lc2U_pure f hd ys (acc ++ f y) (by rw [List.length_append]; omega) (fun z hz => ht z (List.mem_cons_of_mem _ hz)) ?_
    rw [List.flatMap_cons] at q
    rw [List.append_assoc]
    exact q
theorem depsNil {G : UH} : depsOk G [] := trivial
theorem deps_up {G0 : UH} {p : Addr} {o : UO} : ∀ {ds : Deps}, depsOk G0 ds → G0 p = none → depsOk (up G0 p o) ds
  | [], _, _ => trivial
  | d :: ds, h, hp => ⟨by rw [up_ne (un_of h.1 hp)]; exact h.1, deps_up h.2 hp⟩
theorem deps_le {G G' : UH} (l : Le G G') : ∀ {ds : Deps}, depsOk G ds → depsOk G' ds
  | [], _ => trivial
  | d :: ds, h => ⟨l _ _ h.1, deps_le l h.2⟩
theorem gam_fn {cl : List (Str × USp)} {gls : List (Str × U)} : (gam cl gls).fn = spAt cl := rfl
theorem gam_gl {cl : List (Str × USp)} {gls : List (Str × U)} : (gam cl gls).gl = glAt gls := rfl
theorem tab_xcs {cl : List (Str × USp)} {gls : List (Str × U)} {xcs : Xcs} {sub : Nat → Nat → Bool} : (tabOf cl gls xcs sub).toTab.xcs = xcs := rfl
theorem tab_sub {cl : List (Str × USp)} {gls : List (Str × U)} {xcs : Xcs} {sub : Nat → Nat → Bool} : (tabOf cl gls xcs sub).sub = sub := rfl
theorem UD_nx {Q : UK} {E : UXn → UH → Prop} : (UD Q E).nx = fun _ G => fin (Q .non) G := rfl
theorem UD_rt {Q : UK} {E : UXn → UH → Prop} : (UD Q E).rt = fun u G => fin (Q u) G := rfl
theorem UD_bk {Q : UK} {E : UXn → UH → Prop} : (UD Q E).bk = fun _ _ => False := rfl
theorem UD_ct {Q : UK} {E : UXn → UH → Prop} : (UD Q E).ct = fun _ _ => False := rfl
theorem UD_ex {Q : UK} {E : UXn → UH → Prop} : (UD Q E).ex = fun xn _ G => fin (E xn) G := rfl
/-! ### numbers in a row -/
def rangeI (lo c : Int) : Nat → List Int
  | 0 => []
  | n + 1 => lo :: rangeI (lo + c) c n
theorem rangeU_map : ∀ (n : Nat) (lo c : Int), rangeU lo c n = (rangeI lo c n).map U.int
  | 0, _, _ => rfl
  | n + 1, lo, c => by simp [rangeU, rangeI, rangeU_map n]
theorem rangeI_len : ∀ (n : Nat) (lo c : Int), (rangeI lo c n).length = n
  | 0, _, _ => rfl
  | n + 1, lo, c => by simp [rangeI, rangeI_len n]
theorem rangeI_get : ∀ (n : Nat) (lo c : Int) (i : Nat), i < n → (rangeI lo c n)[i]? = some (lo + i * c)
  | 0, _, _, _, h => by omega
  | n + 1, lo, c, 0, _ => by simp [rangeI]
  | n + 1, lo, c, i + 1, h => by
    simp only [rangeI, List.getElem?_cons_succ]
    rw [rangeI_get n (lo + c) c i (by omega)]
    have : ((i + 1 : Nat) : Int) * c = (i : Int) * c + c := by rw [Int.natCast_add, Int.add_mul]; simp
    congr 1
    omega
theorem rangeI_mem {n : Nat} {lo c j : Int} (h : j ∈ rangeI lo c n) : ∃ i : Nat, i < n ∧ j = lo + i * c := by
  obtain ⟨i, hi, e⟩ := List.mem_iff_getElem.mp h
  rw [rangeI_len] at hi
  have := rangeI_get n lo c i hi
  rw [List.getElem?_eq_getElem (by rw [rangeI_len]; exact hi), Option.some.injEq] at this
  exact ⟨i, hi, by rw [← e, this]⟩
theorem mem_rangeI {n i : Nat} {lo c : Int} (h : i < n) : lo + i * c ∈ rangeI lo c n := List.mem_of_getElem? (rangeI_get n lo c i h)
theorem rlen_lt {i : Nat} {lo hi c : Int} (hc : 0 < c) (h : i < rlen lo hi c) : lo + i * c < hi := by
  unfold rlen at h
  have h1 : ((i : Int) + 1) ≤ (hi - lo + c - 1) / c := by omega
  have h2 := (Int.le_ediv_iff_mul_le hc).mp h1
  rw [Int.add_mul, Int.one_mul] at h2
  omega
theorem lt_rlen {i : Nat} {lo hi c : Int} (hc : 0 < c) (h : lo + i * c < hi) : i < rlen lo hi c := by
  unfold rlen
  have h1 : ((i : Int) + 1) ≤ (hi - lo + c - 1) / c := (Int.le_ediv_iff_mul_le hc).mpr (by rw [Int.add_mul, Int.one_mul]; omega)
  omega
theorem rlen_one {lo hi : Int} : rlen lo hi 1 = (hi - lo).toNat := by unfold rlen; rw [Int.ediv_one]; congr 1; omega
theorem atI_int {ns : List Int} {i : Int} (h : 0 ≤ i) (h2 : i < ns.length) : atI (ns.map U.int) i = some (.int (ns.getD i.toNat 0)) := by
  unfold atI ixN
  rw [List.length_map, if_pos h, if_pos h2]
  show (ns.map U.int)[i.toNat]? = _
  rw [List.getElem?_map, List.getElem?_eq_getElem (by omega)]
  simp [List.getD, List.getElem?_eq_getElem (show i.toNat < ns.length by omega)]
theorem atI_zero {x : U} {xs : List U} : atI (x :: xs) 0 = some x := by
  unfold atI ixN
  rw [if_pos (by decide), if_pos (by simp only [List.length_cons]; omega)]
  rfl
theorem atI_one {x y : U} {xs : List U} : atI (x :: y :: xs) 1 = some y := by
  unfold atI ixN
  rw [if_pos (by decide), if_pos (by simp only [List.length_cons]; omega)]
  rfl
theorem ixN_zero {n : Nat} : ixN (n + 1) 0 = some 0 := by
  unfold ixN
  rw [if_pos (by decide), if_pos (by omega)]
  rfl
theorem ixN_20 : ixN 2 0 = some 0 := rfl
/-- a purse at p: a number, the list at g -/
def Pur (G : UH) (p g : Addr) : Prop := p ≠ g ∧ ∃ (sd : Int) (gr : List Int), G p = some (.lst [.int sd, .ref g]) ∧ G g = some (.lst (gr.map U.int))
theorem Pur.le {G G' : UH} {p g : Addr} (h : Pur G p g) (l : Le G G') : Pur G' p g := by
  obtain ⟨n, sd, gr, h1, h2⟩ := h
  exact ⟨n, sd, gr, l _ _ h1, l _ _ h2⟩
/-- a pick: any number below many; the purse goes on -/
def sp_pick : USp := fun us G Q _ => ∃ p g many, us = [.ref p, .int many] ∧ Pur G p g ∧ 0 < many ∧ many < 1073741824 ∧ ∀ r G', 0 ≤ r → r < many → Pur G' p g → Fr p g G G' → Q (.int r) G'
/-- is a pick this number? -/
theorem if_pick {Γ : Gam} {W : UW} {f i : Nat} {n c : Int} {s : USt} {G : UH} {K : Bool → UH → Prop} {p g : Addr} (hf : Γ.fn f = sp_pick) (hs : getS s i = some (.ref p)) (hP : Pur G p g) (hn : 0 < n) (hn2 : n < 1073741824)
    (h : ∀ r G', 0 ≤ r → r < n → Pur G' p g → Fr p g G G' → K (decide (r = c)) G') : trT Γ W (.cmp .Eq (.call f (.cons (.var i) (.cons (.int n) .nil))) (.int c)) s G K := by
  show uVar i s G fun u G1 => Γ.fn f [u, .int n] G1 _ _
  unfold uVar
  rw [hs, hf]
  exact ⟨p, g, n, rfl, hP, hn, hn2, fun r G' a b hP' f' => by
    show K (false ^^ decide (r = c)) G'
    rw [Bool.false_xor]
    exact h r G' a b hP' f'⟩
theorem Fr.up1 {p g : Addr} {G : UH} {o : UO} : Fr p g G (up G p o) := fun a o' h1 _ e => by rw [up_ne h1]; exact e
theorem Fr.up2 {p g : Addr} {G : UH} {o : UO} : Fr p g G (up G g o) := fun a o' _ h2 e => by rw [up_ne h2]; exact e
theorem atI_nat {us : List U} {i : Int} {u : U} (h : 0 ≤ i) (h2 : us[i.toNat]? = some u) : atI us i = some u := by
  have hl : i.toNat < us.length := (List.getElem?_eq_some_iff.mp h2).1
  unfold atI ixN
  rw [if_pos h, if_pos (by omega)]
  exact h2
theorem ixN_nat {n : Nat} {i : Int} (h : 0 ≤ i) (h2 : i < n) : ixN n i = some i.toNat := by unfold ixN; rw [if_pos h, if_pos h2]
/-! ### isinstance -/
def kI : U → Bool
  | .int _ => true
  | .bl _ => true
  | _ => false
def kB : U → Bool
  | .bl _ => true
  | _ => false
def kT : U → Bool
  | .tup _ => true
  | _ => false
def kS : U → Bool
  | .str _ => true
  | _ => false
theorem isi_of {f : U → Bool} {T : String} (hT : T ∈ tyNames) (h : ∀ (G : UH) (u : U) (t : String), tyN G u = some t → isSub t T = f u) {G : UH} {u : U} {Q : UK} (ht : tyS G u) (q : Q (.bl (f u)) G) : uIsi [u, .ty T] G Q := by
  unfold tyS at ht
  unfold uIsi
  cases e : tyN G u with
  | none => rw [e] at ht; cases ht
  | some t =>
    simp only [e]
    exact ⟨hT, by rw [h G u t e]; exact q⟩
theorem ref_ty {G : UH} {a : Addr} {t : String} (h : tyN G (.ref a) = some t) : t = "list" ∨ t = "dict" := by
  unfold tyN at h
  dsimp only at h
  split at h
  · exact .inl (Option.some.inj h).symm
  · exact .inr (Option.some.inj h).symm
  · cases h
theorem isi_int {G : UH} {u : U} {Q : UK} (ht : tyS G u) (q : Q (.bl (kI u)) G) : uIsi [u, .ty "int"] G Q := by
  refine isi_of (by decide) (fun G u t e => ?_) ht q
  cases u with
  | ref a => rcases ref_ty e with rfl | rfl <;> rfl
  | ty n => cases e
  | _ => cases e; rfl
theorem isi_bool {G : UH} {u : U} {Q : UK} (ht : tyS G u) (q : Q (.bl (kB u)) G) : uIsi [u, .ty "bool"] G Q := by
  refine isi_of (by decide) (fun G u t e => ?_) ht q
  cases u with
  | ref a => rcases ref_ty e with rfl | rfl <;> rfl
  | ty n => cases e
  | _ => cases e; rfl
theorem isi_tuple {G : UH} {u : U} {Q : UK} (ht : tyS G u) (q : Q (.bl (kT u)) G) : uIsi [u, .ty "tuple"] G Q := by
  refine isi_of (by decide) (fun G u t e => ?_) ht q
  cases u with
  | ref a => rcases ref_ty e with rfl | rfl <;> rfl
  | ty n => cases e
  | _ => cases e; rfl
theorem isi_str {G : UH} {u : U} {Q : UK} (ht : tyS G u) (q : Q (.bl (kS u)) G) : uIsi [u, .ty "str"] G Q := by
  refine isi_of (by decide) (fun G u t e => ?_) ht q
  cases u with
  | ref a => rcases ref_ty e with rfl | rfl <;> rfl
  | ty n => cases e
  | _ => cases e; rfl
theorem tyS_le {G G' : UH} (l : Le G G') {u : U} (h : tyS G u) : tyS G' u := by
  unfold tyS at *
  cases u with
  | ref a =>
    unfold tyN at h ⊢
    dsimp only at h ⊢
    cases e : G a with
    | none => rw [e] at h; cases h
    | some o => rw [e] at h; rw [l a o e]; exact h
  | ty n => cases h
  | _ => rfl
end UL
set_option Elab.async false
set_option linter.all false
set_option autoImplicit false
set_option maxRecDepth 100000
set_option maxHeartbeats 4000000
/-! UL18: rows of whole numbers that are compared. -/
namespace UL
open PySem PySem.Spec L2
theorem toDs_int : ∀ ns : List Int, toDs (ns.map U.int) = some (ns.map PyData.int)
  | [] => rfl
  | n :: ns => by simp [toDs, toD, toDs_int ns]
theorem eqv_ints : ∀ ns ms : List Int, PyData.eqvAll (ns.map PyData.int) (ms.map PyData.int) = decide (ns = ms)
  | [], [] => by simp [PyData.eqvAll]
  | [], m :: ms => by simp [PyData.eqvAll]
  | n :: ns, [] => by simp [PyData.eqvAll]
  | n :: ns, m :: ms => by
    rw [List.map_cons, List.map_cons]
    unfold PyData.eqvAll
    rw [eqv_ints ns ms]
    by_cases h1 : n = m
    · by_cases h2 : ns = ms
      · simp [PyData.eqv, h1, h2]
      · simp [PyData.eqv, h1, h2]
    · simp [PyData.eqv, h1]
theorem shaped_tup (ns : List Int) : SeqAt.shaped (.tuple (ns.map PyData.int)) = true := by
  have h : ∀ ns : List Int, PyData.canLayAll0 (ns.map PyData.int) = true ∧ PyData.depthAll (ns.map PyData.int) ≤ 1 := by
    intro ns
    induction ns with
    | nil => exact ⟨rfl, by decide⟩
    | cons n ns ih => exact ⟨by simpa [PyData.canLayAll0, PyData.canLay0] using ih.1, by simpa [PyData.depthAll, PyData.depth] using ih.2⟩
  unfold SeqAt.shaped
  obtain ⟨h1, h2⟩ := h ns
  simp only [PyData.canLay0, PyData.depth, h1, Bool.true_and, decide_eq_true_eq]
  exact decide_eq_true (Nat.le_trans (Nat.succ_le_succ h2) (show 2 ≤ 64 by decide))
theorem shaped_lst (ns : List Int) : SeqAt.shaped (.list (ns.map PyData.int)) = true := shaped_tup ns
/-- a row of numbers is compared with a row of numbers -/
theorem eq_tups {neg : Bool} {ns ms : List Int} {G : UH} {Q : UK} (h : Q (.bl (neg ^^ decide (ns = ms))) G) : uEqF neg (.tup (ns.map U.int)) (.tup (ms.map U.int)) G Q := by
  show (match dOf G (.tup (ns.map U.int)), dOf G (.tup (ms.map U.int)) with
    | some d, some e => SeqAt.shaped d = true ∧ SeqAt.shaped e = true ∧ Q (.bl (neg ^^ PyData.eqv d e)) G
    | _, _ => False)
  have h1 : ∀ ks : List Int, dOf G (.tup (ks.map U.int)) = some (.tuple (ks.map PyData.int)) := fun ks => by
    show toD (.tup (ks.map U.int)) = _
    unfold toD
    rw [toDs_int]
    rfl
  rw [h1, h1]
  exact ⟨shaped_tup _, shaped_tup _, by rw [show PyData.eqv (.tuple (ns.map PyData.int)) (.tuple (ms.map PyData.int)) = PyData.eqvAll (ns.map PyData.int) (ms.map PyData.int) from by simp [PyData.eqv], eqv_ints]; exact h⟩
theorem eq_refs {neg : Bool} {a b : Addr} {ns ms : List Int} {G : UH} {Q : UK} (ha : G a = some (.lst (ns.map U.int))) (hb : G b = some (.lst (ms.map U.int))) (h : Q (.bl (neg ^^ decide (ns = ms))) G) : uEqF neg (.ref a) (.ref b) G Q := by
  show (match dOf G (.ref a), dOf G (.ref b) with
    | some d, some e => SeqAt.shaped d = true ∧ SeqAt.shaped e = true ∧ Q (.bl (neg ^^ PyData.eqv d e)) G
    | _, _ => False)
  have h1 : ∀ (c : Addr) (ks : List Int), G c = some (.lst (ks.map U.int)) → dOf G (.ref c) = some (.list (ks.map PyData.int)) := fun c ks e => by
    unfold dOf
    simp only [e, toDs_int, Option.map_some]
  rw [h1 a ns ha, h1 b ms hb]
  exact ⟨shaped_lst _, shaped_lst _, by rw [show PyData.eqv (.list (ns.map PyData.int)) (.list (ms.map PyData.int)) = PyData.eqvAll (ns.map PyData.int) (ms.map PyData.int) from by simp [PyData.eqv], eqv_ints]; exact h⟩
theorem dOf_tup {G : UH} (ks : List Int) : dOf G (.tup (ks.map U.int)) = some (.tuple (ks.map PyData.int)) := by
  show toD (.tup (ks.map U.int)) = _
  unfold toD
  rw [toDs_int]
  rfl
theorem dOf_lst {G : UH} {c : Addr} {ks : List Int} (e : G c = some (.lst (ks.map U.int))) : dOf G (.ref c) = some (.list (ks.map PyData.int)) := by
  unfold dOf
  simp only [e, toDs_int, Option.map_some]
theorem eqv_tup (ns ms : List Int) : PyData.eqv (.tuple (ns.map PyData.int)) (.tuple (ms.map PyData.int)) = decide (ns = ms) := by
  rw [← eqv_ints]
  simp [PyData.eqv]
theorem eqv_lst (ns ms : List Int) : PyData.eqv (.list (ns.map PyData.int)) (.list (ms.map PyData.int)) = decide (ns = ms) := by
  rw [← eqv_ints]
  simp [PyData.eqv]
/-- a comprehension whose turns change the heap elsewhere: what each item keeps -/
theorem lcU_acc {p : Addr} {g : U → (USt → UH → Prop) → UH → Prop} {tt : USt → UH → (Bool → UH → Prop) → Prop} {te : USt → UH → UK → Prop} {Q : UK} (I : UH → Prop) (P : U → Prop) (hI : ∀ G acc, I G → I (up G p (.lst acc))) (n : Nat) (hn : n ≤ sizeLine)
    (q : ∀ G acc, I G → G p = some (.lst acc) → (∀ a ∈ acc, P a) → acc.length = n → Q (.ref p) G) :
    ∀ (ys acc : List U) (G : UH), acc.length + ys.length = n → I G → G p = some (.lst acc) → (∀ a ∈ acc, P a) →
      (∀ y ∈ ys, ∀ (acc : List U) (G : UH) (K1 : UK) (K0 : UH → Prop), I G → G p = some (.lst acc) → (∀ u G', P u → I G' → G' p = some (.lst acc) → K1 u G') → g y (fun s1 G1 => tt s1 G1 fun b G2 => if b = true then te s1 G2 K1 else K0 G2) G) →
      lcU [] p g tt te Q ys acc G
  | [], acc, G, hl, hi, hp, ha, _ => ⟨trivial, hp, q G acc hi hp ha (by simpa using hl)⟩
  | y :: ys, acc, G, hl, hi, hp, ha, st => by
    refine ⟨trivial, hp, st y List.mem_cons_self acc G _ _ hi hp fun u G' hu hi' hp' => ⟨hp', by simp only [List.length_cons] at hl; omega, _, .refl _, ?_⟩⟩
    refine lcU_acc I P hI n hn q ys (acc ++ [u]) _ (by simp only [List.length_cons, List.length_append, List.length_nil] at hl ⊢; omega) (hI _ _ hi') up_same (fun a h => ?_) fun y hy => st y (List.mem_cons_of_mem _ hy)
    rw [List.mem_append] at h
    rcases h with h | h
    · exact ha a h
    · rw [List.mem_singleton.mp h]
      exact hu
theorem Pur.upf {G : UH} {p g a : Addr} {o : UO} (h : Pur G p g) (ha : G a = none) : Pur (up G a o) p g := h.le (.new ha)
theorem Pur.upn {G : UH} {p g a : Addr} {o : UO} (h : Pur G p g) (h1 : p ≠ a) (h2 : g ≠ a) : Pur (up G a o) p g := by
  obtain ⟨n, sd, gr, e1, e2⟩ := h
  exact ⟨n, sd, gr, by rw [up_ne h1]; exact e1, by rw [up_ne h2]; exact e2⟩
theorem Pur.ne {G : UH} {p g a : Addr} (h : Pur G p g) (ha : G a = none) : p ≠ a ∧ g ≠ a := by
  obtain ⟨n, sd, gr, e1, e2⟩ := h
  exact ⟨fun z => (by subst z; rw [ha] at e1; cases e1), fun z => (by subst z; rw [ha] at e2; cases e2)⟩
theorem intsOf_int : ∀ ns : List Int, intsOf (ns.map U.int) = some ns
  | [] => rfl
  | n :: ns => by rw [List.map_cons]; unfold intsOf; rw [intsOf_int ns]; rfl
theorem sorted_of {G : UH} {a : Addr} {ns : List Int} {Q : UK} (h : G a = some (.lst (ns.map U.int))) (q : ∀ ns' : List Int, ns'.Perm ns → ns'.Pairwise (· ≤ ·) → ∀ p, G p = none → Q (.ref p) (up G p (.lst (ns'.map U.int)))) : uSorted [.ref a] G Q := by
  unfold uSorted uIntL
  simp only [h, intsOf_int]
  exact q
/-- three in order -/
theorem sort3 {a x b : Int} (hab : a ≤ b) {l : List Int} (hp : l.Perm [a, x, b]) (hs : l.Pairwise (· ≤ ·)) : ∃ u v, l = [u, max a (min b x), v] := by
  have go : ∀ m : List Int, m.Perm [a, x, b] → m.Pairwise (· ≤ ·) → l = m := fun m h1 h2 => List.Perm.eq_of_pairwise (fun _ _ _ _ h h' => Int.le_antisymm h h') hs h2 (hp.trans h1.symm)
  by_cases c : x < a
  · refine ⟨x, b, ?_⟩
    rw [show max a (min b x) = a by omega]
    exact go _ (List.Perm.swap a x [b]) (by simp; omega)
  · by_cases c2 : b < x
    · refine ⟨a, x, ?_⟩
      rw [show max a (min b x) = b by omega]
      exact go _ (List.Perm.cons a (List.Perm.swap x b [])) (by simp; omega)
    · refine ⟨a, b, ?_⟩
      rw [show max a (min b x) = x by omega]
      exact go _ (List.Perm.refl _) (by simp; omega)
theorem cut_drop {us : List U} {i : Int} (h : 0 ≤ i) : cutU us (some i) none = us.drop i.toNat := by
  unfold cutU HT.sIx
  simp only
  rw [if_neg (by omega)]
  by_cases c : i.toNat ≤ us.length
  · rw [Nat.min_eq_left c]
    exact List.take_of_length_le (by rw [List.length_drop]; exact Nat.le_refl _)
  · rw [Nat.min_eq_right (by omega), List.drop_length, List.take_nil, List.drop_of_length_le (by omega)]
end UL
set_option Elab.async false
set_option linter.all false
set_option autoImplicit false
set_option maxRecDepth 100000
set_option maxHeartbeats 4000000
/-! UL19: the end. -/
namespace UL
open PySem PySem.Spec L2
theorem fn_cx {P : Program} {w : World} {K : PySem.W.Frag} {mg : Str → Option Value} {base : Heap} {C1 C2 : CXT} {k : Nat} {f : Addr} {fd : FuncData} {ps : List Str} {sp : Sp} (F : FnOk P w K mg base C1 k f fd ps sp) (h : ∀ o H s E e s', C1 o H s E e s' → C2 o H s E e s') : FnOk P w K mg base C2 k f fd ps sp :=
  ⟨F.len, fun A outer s H args us vs Q E hr he hb hv hs => codeAny_mono (F.run A outer s H args us vs Q E hr he hb hv hs) fun r s' hq => by
    cases r with
    | ok x => cases x <;> exact hq
    | error e => exact h _ _ _ _ _ _ hq⟩
def CXA (P : Program) : CXT := fun o H s E e s' => ∃ w, L2.CX P w o H s E e s'
theorem cxa_end {P : Program} (H : Hp) (s : Shared) (e : Value) (s' : Shared) (h : CXA P [] H s (fun _ _ _ => False) e s') : False := by
  obtain ⟨w, a, B, H', cls, d, _, _, _, _, _, _, _, hE⟩ := h
  exact hE
end UL
set_option Elab.async false
set_option linter.all false
set_option autoImplicit false
set_option maxHeartbeats 4000000

/-! the trees of the law (written by gen.py) -/
namespace K71
open PySem PySem.Spec L2 UL
set_option maxRecDepth 100000
def top (i : Nat) : Stmt := PySem.Challenge.pw_samesamples_k71_whole_change_places_and.main.body.getD i (.Pass ⟨0, 0, 0, 0⟩)
def xcs : Xcs := [("NotUsable", ["at", "word"])]
def sub : Nat → Nat → Bool
  | 0, 0 => true
  | _, _ => false
abbrev s_is_integer : Stmt := top 6
def n_is_integer : List Str := ["thing"]
def p_is_integer : List Str := ["thing"]
@[irreducible] def b_is_integer : Sms := (.cons (.ret (.and (.blt .isi (.cons (.var 0) (.cons (.ty "int") .nil))) (.not (.blt .isi (.cons (.var 0) (.cons (.ty "bool") .nil)))))) .nil)
-- is_integer: slots [(0, 'thing')]; calls []; cells []
abbrev s_is_worth : Stmt := top 7
def n_is_worth : List Str := ["thing"]
def p_is_worth : List Str := ["thing"]
@[irreducible] def b_is_worth : Sms := (.cons (.ret (.and (.call 0 (.cons (.var 0) .nil)) (.chain .LtE .LtE (.neg (.gl 0)) (.var 0) (.gl 0)))) .nil)
-- is_worth: slots [(0, 'thing')]; calls ['is_integer']; cells []
abbrev s_is_sound : Stmt := top 8
def n_is_sound : List Str := ["thing", "worth"]
def p_is_sound : List Str := ["thing"]
@[irreducible] def l1_is_sound : Sms := (.cons (.ife (.not (.call 0 (.cons (.var 1) .nil))) (.cons (.ret (.bl false)) .nil) .nil) .nil)
@[irreducible] def t1_is_sound : Sms := (.cons (.ret (.bl true)) .nil)
@[irreducible] def t2_is_sound : Sms := (.cons (.for_ (.nm 1) (.val (.var 0)) l1_is_sound) t1_is_sound)
@[irreducible] def b_is_sound : Sms := (.cons (.ife (.not (.blt .isi (.cons (.var 0) (.cons (.ty "tuple") .nil)))) (.cons (.ret (.bl false)) .nil) .nil) t2_is_sound)
-- is_sound: slots [(0, 'thing'), (1, 'worth')]; calls ['is_worth']; cells []
abbrev s_is_mode : Stmt := top 9
def n_is_mode : List Str := ["thing"]
def p_is_mode : List Str := ["thing"]
@[irreducible] def b_is_mode : Sms := (.cons (.ret (.and (.blt .isi (.cons (.var 0) (.cons (.ty "str") .nil))) (.cmp .In (.var 0) (.tup (.cons (.str "down") (.cons (.str "near") (.cons (.str "zero") .nil))))))) .nil)
-- is_mode: slots [(0, 'thing')]; calls []; cells []
abbrev s__look_spread : Stmt := top 11
def n__look_spread : List Str := ["sound", "many"]
def p__look_spread : List Str := ["sound", "many"]
@[irreducible] def t1__look_spread : Sms := (.cons (.ife (.or (.not (.call 1 (.cons (.var 1) .nil))) (.or (.cmp .Lt (.var 1) (.int 1)) (.cmp .Gt (.var 1) (.int 64)))) (.cons (.raise 0 (.cons (.str "many") (.cons (.neg (.int 1)) .nil))) .nil) .nil) .nil)
@[irreducible] def b__look_spread : Sms := (.cons (.ife (.not (.call 0 (.cons (.var 0) .nil))) (.cons (.raise 0 (.cons (.str "sound") (.cons (.neg (.int 1)) .nil))) .nil) .nil) t1__look_spread)
-- _look_spread: slots [(0, 'sound'), (1, 'many')]; calls ['is_sound', 'is_integer']; cells []
abbrev s_spread : Stmt := top 12
def n_spread : List Str := ["sound", "many", "zeros", "worth", "value"]
def p_spread : List Str := ["sound", "many"]
@[irreducible] def t1_spread : Sms := (.cons (.ret (.blt .tuple (.cons (.lc2 (.var 4) (.nm 3) (.val (.var 0)) .no (.nm 4) (.val (.bin .Add (.tup (.cons (.var 3) .nil)) (.var 2))) .no) .nil))) .nil)
@[irreducible] def t2_spread : Sms := (.cons (.asg (.nm 2) (.bin .Mult (.tup (.cons (.int 0) .nil)) (.bin .Sub (.var 1) (.int 1)))) t1_spread)
@[irreducible] def b_spread : Sms := (.cons (.expr (.call 0 (.cons (.var 0) (.cons (.var 1) .nil)))) t2_spread)
-- spread: slots [(0, 'sound'), (1, 'many'), (2, 'zeros'), (3, 'worth'), (4, 'value')]; calls ['_look_spread']; cells ['zeros']
abbrev s_kept_each : Stmt := top 13
def n_kept_each : List Str := ["sound", "many"]
def p_kept_each : List Str := ["sound", "many"]
@[irreducible] def t1_kept_each : Sms := (.cons (.ret (.stp (.var 0) (.var 1))) .nil)
@[irreducible] def b_kept_each : Sms := (.cons (.expr (.call 0 (.cons (.var 0) (.cons (.var 1) .nil)))) t1_kept_each)
-- kept_each: slots [(0, 'sound'), (1, 'many')]; calls ['_look_spread']; cells []
abbrev s_clip : Stmt := top 15
def n_clip : List Str := ["value"]
def p_clip : List Str := ["value"]
@[irreducible] def t1_clip : Sms := (.cons (.ret (.blt .max2 (.cons (.neg (.gl 0)) (.cons (.blt .min2 (.cons (.gl 0) (.cons (.var 0) .nil))) .nil)))) .nil)
@[irreducible] def b_clip : Sms := (.cons (.ife (.not (.call 0 (.cons (.var 0) .nil))) (.cons (.raise 0 (.cons (.str "value") (.cons (.neg (.int 1)) .nil))) .nil) .nil) t1_clip)
-- clip: slots [(0, 'value')]; calls ['is_integer']; cells []
abbrev s_turned : Stmt := top 16
def n_turned : List Str := ["value", "many", "mode"]
def p_turned : List Str := ["value", "many", "mode"]
@[irreducible] def t1_turned : Sms := (.cons (.ret (.bin .FloorDiv (.var 0) (.var 1))) .nil)
@[irreducible] def t2_turned : Sms := (.cons (.ife (.and (.cmp .Eq (.var 2) (.str "zero")) (.cmp .Lt (.var 0) (.int 0))) (.cons (.ret (.neg (.bin .FloorDiv (.neg (.var 0)) (.var 1)))) .nil) .nil) t1_turned)
@[irreducible] def t3_turned : Sms := (.cons (.ife (.cmp .Eq (.var 2) (.str "near")) (.cons (.ret (.bin .FloorDiv (.bin .Add (.bin .Mult (.int 2) (.var 0)) (.var 1)) (.bin .Mult (.int 2) (.var 1)))) .nil) .nil) t2_turned)
@[irreducible] def t4_turned : Sms := (.cons (.ife (.not (.call 1 (.cons (.var 2) .nil))) (.cons (.raise 0 (.cons (.str "mode") (.cons (.neg (.int 1)) .nil))) .nil) .nil) t3_turned)
@[irreducible] def t5_turned : Sms := (.cons (.ife (.or (.not (.call 0 (.cons (.var 1) .nil))) (.cmp .Lt (.var 1) (.int 1))) (.cons (.raise 0 (.cons (.str "many") (.cons (.neg (.int 1)) .nil))) .nil) .nil) t4_turned)
@[irreducible] def b_turned : Sms := (.cons (.ife (.not (.call 0 (.cons (.var 0) .nil))) (.cons (.raise 0 (.cons (.str "value") (.cons (.neg (.int 1)) .nil))) .nil) .nil) t5_turned)
-- turned: slots [(0, 'value'), (1, 'many'), (2, 'mode')]; calls ['is_integer', 'is_mode']; cells []
abbrev s__resample_rates : Stmt := top 18
def n__resample_rates : List Str := ["up", "down", "weights", "weight"]
def p__resample_rates : List Str := ["up", "down", "weights"]
@[irreducible] def t1__resample_rates : Sms := (.cons (.ife (.not (.blt .all (.cons (.lc (.and (.call 0 (.cons (.var 3) .nil)) (.chain .LtE .LtE (.neg (.int 65536)) (.var 3) (.int 65536))) (.nm 3) (.val (.var 2)) .no) .nil))) (.cons (.raise 0 (.cons (.str "weights") (.cons (.neg (.int 1)) .nil))) .nil) .nil) .nil)
@[irreducible] def t2__resample_rates : Sms := (.cons (.ife (.or (.not (.blt .isi (.cons (.var 2) (.cons (.ty "tuple") .nil)))) (.or (.cmp .Lt (.blt .len (.cons (.var 2) .nil)) (.int 1)) (.cmp .Gt (.blt .len (.cons (.var 2) .nil)) (.int 64)))) (.cons (.raise 0 (.cons (.str "weights") (.cons (.neg (.int 1)) .nil))) .nil) .nil) t1__resample_rates)
@[irreducible] def t3__resample_rates : Sms := (.cons (.ife (.or (.not (.call 0 (.cons (.var 1) .nil))) (.or (.cmp .Lt (.var 1) (.int 1)) (.cmp .Gt (.var 1) (.int 64)))) (.cons (.raise 0 (.cons (.str "down") (.cons (.neg (.int 1)) .nil))) .nil) .nil) t2__resample_rates)
@[irreducible] def b__resample_rates : Sms := (.cons (.ife (.or (.not (.call 0 (.cons (.var 0) .nil))) (.or (.cmp .Lt (.var 0) (.int 1)) (.cmp .Gt (.var 0) (.int 64)))) (.cons (.raise 0 (.cons (.str "up") (.cons (.neg (.int 1)) .nil))) .nil) .nil) t3__resample_rates)
-- _resample_rates: slots [(0, 'up'), (1, 'down'), (2, 'weights'), (3, 'weight')]; calls ['is_integer']; cells []
abbrev s__resample_sum : Stmt := top 19
def n__resample_sum : List Str := ["worths", "gone", "place", "up", "weights", "total", "j"]
def p__resample_sum : List Str := ["worths", "gone", "place", "up", "weights"]
@[irreducible] def l1__resample_sum : Sms := (.cons (.aug 5 .Add (.bin .Mult (.ix (.var 4) (.var 6)) (.ix (.var 0) (.bin .Sub (.bin .FloorDiv (.bin .Sub (.var 2) (.var 6)) (.var 3)) (.var 1))))) .nil)
@[irreducible] def t1__resample_sum : Sms := (.cons (.ret (.call 0 (.cons (.call 1 (.cons (.var 5) (.cons (.int 4096) (.cons (.str "near") .nil)))) .nil))) .nil)
@[irreducible] def t2__resample_sum : Sms := (.cons (.for_ (.nm 6) (.rng3 (.bin .Mod (.var 2) (.var 3)) (.blt .min2 (.cons (.blt .len (.cons (.var 4) .nil)) (.cons (.bin .Add (.var 2) (.int 1)) .nil))) (.var 3)) l1__resample_sum) t1__resample_sum)
@[irreducible] def b__resample_sum : Sms := (.cons (.asg (.nm 5) (.int 0)) t2__resample_sum)
-- _resample_sum: slots [(0, 'worths'), (1, 'gone'), (2, 'place'), (3, 'up'), (4, 'weights'), (5, 'total'), (6, 'j')]; calls ['clip', 'turned']; cells []
abbrev s_resampled : Stmt := top 20
def n_resampled : List Str := ["sound", "up", "down", "weights", "place"]
def p_resampled : List Str := ["sound", "up", "down", "weights"]
@[irreducible] def t1_resampled : Sms := (.cons (.ret (.blt .tuple (.cons (.lc (.call 2 (.cons (.var 0) (.cons (.int 0) (.cons (.var 4) (.cons (.var 1) (.cons (.var 3) .nil)))))) (.nm 4) (.rng3 (.int 0) (.bin .Mult (.blt .len (.cons (.var 0) .nil)) (.var 1)) (.var 2)) .no) .nil))) .nil)
@[irreducible] def t2_resampled : Sms := (.cons (.expr (.call 1 (.cons (.var 1) (.cons (.var 2) (.cons (.var 3) .nil))))) t1_resampled)
@[irreducible] def b_resampled : Sms := (.cons (.ife (.not (.call 0 (.cons (.var 0) .nil))) (.cons (.raise 0 (.cons (.str "sound") (.cons (.neg (.int 1)) .nil))) .nil) .nil) t2_resampled)
-- resampled: slots [(0, 'sound'), (1, 'up'), (2, 'down'), (3, 'weights'), (4, 'place')]; calls ['is_sound', '_resample_rates', '_resample_sum']; cells ['sound', 'up', 'weights']
abbrev s__rate_divisor : Stmt := top 21
def n__rate_divisor : List Str := ["one", "other"]
def p__rate_divisor : List Str := ["one", "other"]
@[irreducible] def l1__rate_divisor : Sms := (.cons (.par2 0 1 (.cons (.var 1) (.cons (.bin .Mod (.var 0) (.var 1)) .nil))) .nil)
@[irreducible] def t1__rate_divisor : Sms := (.cons (.ret (.var 0)) .nil)
@[irreducible] def b__rate_divisor : Sms := (.cons (.whl (.var 1) l1__rate_divisor) t1__rate_divisor)
-- _rate_divisor: slots [(0, 'one'), (1, 'other')]; calls []; cells []
abbrev s_steady : Stmt := top 22
def n_steady : List Str := ["up", "down", "weights", "phase", "j"]
def p_steady : List Str := ["up", "down", "weights"]
@[irreducible] def l1_steady : Sms := (.cons (.ife (.cmp .NotEq (.blt .sum (.cons (.lc (.ix (.var 2) (.var 4)) (.nm 4) (.rng3 (.var 3) (.blt .len (.cons (.var 2) .nil)) (.var 0)) .no) .nil)) (.int 4096)) (.cons (.ret (.var 3)) .nil) .nil) .nil)
@[irreducible] def t1_steady : Sms := (.cons (.ret (.bl true)) .nil)
@[irreducible] def t2_steady : Sms := (.cons (.for_ (.nm 3) (.rng3 (.int 0) (.var 0) (.call 1 (.cons (.var 0) (.cons (.var 1) .nil)))) l1_steady) t1_steady)
@[irreducible] def b_steady : Sms := (.cons (.expr (.call 0 (.cons (.var 0) (.cons (.var 1) (.cons (.var 2) .nil))))) t2_steady)
-- steady: slots [(0, 'up'), (1, 'down'), (2, 'weights'), (3, 'phase'), (4, 'j')]; calls ['_resample_rates', '_rate_divisor']; cells ['weights']
abbrev s__law_purse : Stmt := top 24
def n__law_purse : List Str := ["_law_script", "_law_seed", "_law_great", "_law_k", "_law_cell"]
def p__law_purse : List Str := ["_law_script"]
@[irreducible] def t1__law_purse : Sms := (.cons (.asg (.nm 1) (.bin .Mod (.blt .int (.cons (.bin .Add (.bin .Add (.bin .Add (.bin .Mult (.var 1) (.int 44129)) (.bin .Mult (.bin .Mod (.blt .int (.cons (.var 4) .nil)) (.int 999959)) (.int 1301))) (.bin .Mult (.int 9) (.var 3))) (.int 17)) .nil)) (.int 2147483549))) .nil)
@[irreducible] def t2__law_purse : Sms := (.cons (.ife (.cmp .GtE (.blt .abs (.cons (.var 4) .nil)) (.bin .Pow (.int 10) (.int 18))) (.cons (.expr (.mth .append (.var 2) (.cons (.bin .Add (.bin .Mult (.int 2) (.blt .abs (.cons (.var 4) .nil))) (.blt .int (.cons (.cmp .Lt (.var 4) (.int 0)) .nil))) .nil))) .nil) .nil) t1__law_purse)
@[irreducible] def l1__law_purse : Sms := (.cons (.asg (.nm 4) (.blt .int (.cons (.ix (.var 0) (.var 3)) .nil))) t2__law_purse)
@[irreducible] def t3__law_purse : Sms := (.cons (.ret (.lst (.cons (.var 1) (.cons (.var 2) .nil)))) .nil)
@[irreducible] def t4__law_purse : Sms := (.cons (.for_ (.nm 3) (.rng1 (.blt .len (.cons (.var 0) .nil))) l1__law_purse) t3__law_purse)
@[irreducible] def t5__law_purse : Sms := (.cons (.asg (.nm 2) (.lst .nil)) t4__law_purse)
@[irreducible] def b__law_purse : Sms := (.cons (.asg (.nm 1) (.int 60611)) t5__law_purse)
-- _law_purse: slots [(0, '_law_script'), (1, '_law_seed'), (2, '_law_great'), (3, '_law_k'), (4, '_law_cell')]; calls []; cells []
abbrev s__law_pick : Stmt := top 25
def n__law_pick : List Str := ["_law_purse_here", "_law_many", "_law_great", "_law_cell"]
def p__law_pick : List Str := ["_law_purse_here", "_law_many"]
@[irreducible] def t1__law_pick : Sms := (.cons (.ret (.bin .Mod (.blt .int (.cons (.var 3) .nil)) (.var 1))) .nil)
@[irreducible] def t2__law_pick : Sms := (.cons (.ife (.cmp .Eq (.ix (.var 2) (.int 0)) (.int 0)) (.cons (.expr (.mth .popAt (.var 2) (.cons (.int 0) .nil))) .nil) .nil) t1__law_pick)
@[irreducible] def t3__law_pick : Sms := (.cons (.sub (.var 2) (.int 0) (.bin .FloorDiv (.blt .int (.cons (.var 3) .nil)) (.var 1))) t2__law_pick)
@[irreducible] def t4__law_pick : Sms := (.cons (.ret (.bin .Mod (.bin .Mod (.blt .int (.cons (.bin .Add (.bin .Mult (.bin .FloorDiv (.ix (.var 0) (.int 0)) (.int 13)) (.int 33179)) (.ix (.var 0) (.int 0))) .nil)) (.int 2147483543)) (.var 1))) .nil)
@[irreducible] def t5__law_pick : Sms := (.cons (.sub (.var 0) (.int 0) (.bin .Mod (.blt .int (.cons (.bin .Add (.bin .Mult (.ix (.var 0) (.int 0)) (.int 46351)) (.int 40009)) .nil)) (.int 2147483549))) t4__law_pick)
@[irreducible] def t6__law_pick : Sms := (.cons (.ife (.cmp .Gt (.blt .len (.cons (.var 2) .nil)) (.int 0)) (.cons (.asg (.nm 3) (.ix (.var 2) (.int 0))) t3__law_pick) .nil) t5__law_pick)
@[irreducible] def b__law_pick : Sms := (.cons (.asg (.nm 2) (.ix (.var 0) (.int 1))) t6__law_pick)
-- _law_pick: slots [(0, '_law_purse_here'), (1, '_law_many'), (2, '_law_great'), (3, '_law_cell')]; calls []; cells []
abbrev s__law_worth : Stmt := top 26
def n__law_worth : List Str := ["_law_purse_here", "_law_which"]
def p__law_worth : List Str := ["_law_purse_here"]
@[irreducible] def t1__law_worth : Sms := (.cons (.ret (.bin .Sub (.call 0 (.cons (.var 0) (.cons (.int 2097151) .nil))) (.int 1048575))) .nil)
@[irreducible] def t2__law_worth : Sms := (.cons (.ife (.cmp .Lt (.var 1) (.int 4)) (.cons (.ret (.bin .Add (.int 1) (.call 0 (.cons (.var 0) (.cons (.int 9) .nil))))) .nil) .nil) t1__law_worth)
@[irreducible] def t3__law_worth : Sms := (.cons (.ife (.cmp .Eq (.var 1) (.int 1)) (.cons (.ret (.neg (.int 1048575))) .nil) .nil) t2__law_worth)
@[irreducible] def t4__law_worth : Sms := (.cons (.ife (.cmp .Eq (.var 1) (.int 0)) (.cons (.ret (.int 1048575)) .nil) .nil) t3__law_worth)
@[irreducible] def b__law_worth : Sms := (.cons (.asg (.nm 1) (.call 0 (.cons (.var 0) (.cons (.int 6) .nil)))) t4__law_worth)
-- _law_worth: slots [(0, '_law_purse_here'), (1, '_law_which')]; calls ['_law_pick']; cells []
abbrev s__law_common : Stmt := top 27
def n__law_common : List Str := ["_law_one", "_law_other", "_law_best", "_law_k"]
def p__law_common : List Str := ["_law_one", "_law_other"]
@[irreducible] def l1__law_common : Sms := (.cons (.ife (.and (.cmp .Eq (.bin .Mod (.blt .int (.cons (.var 0) .nil)) (.var 3)) (.int 0)) (.cmp .Eq (.bin .Mod (.blt .int (.cons (.var 1) .nil)) (.var 3)) (.int 0))) (.cons (.asg (.nm 2) (.var 3)) .nil) .nil) .nil)
@[irreducible] def t1__law_common : Sms := (.cons (.ret (.var 2)) .nil)
@[irreducible] def t2__law_common : Sms := (.cons (.for_ (.nm 3) (.rng2 (.int 2) (.bin .Add (.var 0) (.int 1))) l1__law_common) t1__law_common)
@[irreducible] def b__law_common : Sms := (.cons (.asg (.nm 2) (.int 1)) t2__law_common)
-- _law_common: slots [(0, '_law_one'), (1, '_law_other'), (2, '_law_best'), (3, '_law_k')]; calls []; cells []
abbrev s__law_pair : Stmt := top 28
def n__law_pair : List Str := ["_law_purse_here", "_law_top", "_law_share", "_law_one"]
def p__law_pair : List Str := ["_law_purse_here"]
@[irreducible] def t1__law_pair : Sms := (.cons (.ret (.tup (.cons (.var 3) (.cons (.blt .min2 (.cons (.int 64) (.cons (.bin .Mult (.var 2) (.bin .Add (.int 1) (.call 0 (.cons (.var 0) (.cons (.var 1) .nil))))) .nil))) .nil)))) .nil)
@[irreducible] def t2__law_pair : Sms := (.cons (.asg (.nm 3) (.blt .min2 (.cons (.int 64) (.cons (.bin .Mult (.var 2) (.bin .Add (.int 1) (.call 0 (.cons (.var 0) (.cons (.var 1) .nil))))) .nil)))) t1__law_pair)
@[irreducible] def t3__law_pair : Sms := (.cons (.ife (.cmp .Eq (.call 0 (.cons (.var 0) (.cons (.int 2) .nil))) (.int 0)) (.cons (.asg (.nm 2) (.bin .Add (.int 1) (.call 0 (.cons (.var 0) (.cons (.int 8) .nil))))) .nil) .nil) t2__law_pair)
@[irreducible] def t4__law_pair : Sms := (.cons (.asg (.nm 2) (.int 1)) t3__law_pair)
@[irreducible] def t5__law_pair : Sms := (.cons (.ife (.cmp .Eq (.call 0 (.cons (.var 0) (.cons (.int 6) .nil))) (.int 0)) (.cons (.asg (.nm 1) (.int 64)) .nil) .nil) t4__law_pair)
@[irreducible] def b__law_pair : Sms := (.cons (.asg (.nm 1) (.int 8)) t5__law_pair)
-- _law_pair: slots [(0, '_law_purse_here'), (1, '_law_top'), (2, '_law_share'), (3, '_law_one')]; calls ['_law_pick']; cells []
abbrev s__law_spread : Stmt := top 29
def n__law_spread : List Str := ["_law_row", "_law_many", "_law_told", "_law_k"]
def p__law_spread : List Str := ["_law_row", "_law_many"]
@[irreducible] def l1__law_spread : Sms := (.cons (.sub (.var 2) (.bin .Mult (.var 3) (.var 1)) (.ix (.var 0) (.var 3))) .nil)
@[irreducible] def t1__law_spread : Sms := (.cons (.ret (.var 2)) .nil)
@[irreducible] def t2__law_spread : Sms := (.cons (.for_ (.nm 3) (.rng1 (.blt .len (.cons (.var 0) .nil))) l1__law_spread) t1__law_spread)
@[irreducible] def b__law_spread : Sms := (.cons (.asg (.nm 2) (.bin .Mult (.lst (.cons (.int 0) .nil)) (.bin .Mult (.blt .len (.cons (.var 0) .nil)) (.var 1)))) t2__law_spread)
-- _law_spread: slots [(0, '_law_row'), (1, '_law_many'), (2, '_law_told'), (3, '_law_k')]; calls []; cells []
abbrev s__law_kept : Stmt := top 30
def n__law_kept : List Str := ["_law_row", "_law_many", "_law_k", "_law_x"]
def p__law_kept : List Str := ["_law_row", "_law_many"]
@[irreducible] def b__law_kept : Sms := (.cons (.ret (.lc (.var 3) (.tup (.cons (.nm 2) (.cons (.nm 3) .nil))) (.enum (.var 0)) (.yes (.cmp .Eq (.bin .Sub (.var 2) (.bin .Mult (.bin .FloorDiv (.var 2) (.var 1)) (.var 1))) (.int 0))))) .nil)
-- _law_kept: slots [(0, '_law_row'), (1, '_law_many'), (2, '_law_k'), (3, '_law_x')]; calls []; cells ['_law_many']
abbrev s__law_is_sound : Stmt := top 31
def n__law_is_sound : List Str := ["_law_thing", "_law_due", "_law_x", "_law_y"]
def p__law_is_sound : List Str := ["_law_thing", "_law_due"]
@[irreducible] def l1__law_is_sound : Sms := (.cons (.ife (.or (.not (.blt .isi (.cons (.var 2) (.cons (.ty "int") .nil)))) (.or (.blt .isi (.cons (.var 2) (.cons (.ty "bool") .nil))) (.cmp .NotEq (.var 2) (.var 3)))) (.cons (.ret (.bl false)) .nil) .nil) .nil)
@[irreducible] def t1__law_is_sound : Sms := (.cons (.ret (.bl true)) .nil)
@[irreducible] def t2__law_is_sound : Sms := (.cons (.for_ (.tup (.cons (.nm 2) (.cons (.nm 3) .nil))) (.zip (.var 0) (.var 1)) l1__law_is_sound) t1__law_is_sound)
@[irreducible] def b__law_is_sound : Sms := (.cons (.ife (.or (.not (.blt .isi (.cons (.var 0) (.cons (.ty "tuple") .nil)))) (.cmp .NotEq (.blt .len (.cons (.var 0) .nil)) (.blt .len (.cons (.var 1) .nil)))) (.cons (.ret (.bl false)) .nil) .nil) t2__law_is_sound)
-- _law_is_sound: slots [(0, '_law_thing'), (1, '_law_due'), (2, '_law_x'), (3, '_law_y')]; calls []; cells []
abbrev s__law_both : Stmt := top 32
def n__law_both : List Str := ["_law_p", "_law_q", "_law_row", "_law_same", "_law_wide", "_law_thin", "_law_one", "_law_other"]
def p__law_both : List Str := ["_law_p", "_law_q", "_law_row", "_law_same"]
@[irreducible] def t1__law_both : Sms := (.cons (.ret (.or (.cmp .Is (.var 3) .non) (.cmp .Eq (.blt .int (.cons (.cmp .Eq (.var 6) (.var 7)) .nil)) (.blt .int (.cons (.var 3) .nil))))) .nil)
@[irreducible] def t2__law_both : Sms := (.cons (.ife (.not (.call 2 (.cons (.var 7) (.cons (.call 4 (.cons (.call 3 (.cons (.var 2) (.cons (.var 1) .nil))) (.cons (.var 0) .nil))) .nil)))) (.cons (.ret (.bl false)) .nil) .nil) t1__law_both)
@[irreducible] def t3__law_both : Sms := (.cons (.ife (.not (.call 2 (.cons (.var 6) (.cons (.call 3 (.cons (.call 4 (.cons (.var 2) (.cons (.var 0) .nil))) (.cons (.var 1) .nil))) .nil)))) (.cons (.ret (.bl false)) .nil) .nil) t2__law_both)
@[irreducible] def t4__law_both : Sms := (.cons (.asg (.nm 7) (.call 0 (.cons (.var 5) (.cons (.var 0) .nil)))) t3__law_both)
@[irreducible] def t5__law_both : Sms := (.cons (.asg (.nm 6) (.call 1 (.cons (.var 4) (.cons (.var 1) .nil)))) t4__law_both)
@[irreducible] def t6__law_both : Sms := (.cons (.ife (.or (.not (.call 2 (.cons (.var 4) (.cons (.call 4 (.cons (.var 2) (.cons (.var 0) .nil))) .nil)))) (.not (.call 2 (.cons (.var 5) (.cons (.call 3 (.cons (.var 2) (.cons (.var 1) .nil))) .nil))))) (.cons (.ret (.bl false)) .nil) .nil) t5__law_both)
@[irreducible] def t7__law_both : Sms := (.cons (.asg (.nm 5) (.call 1 (.cons (.var 2) (.cons (.var 1) .nil)))) t6__law_both)
@[irreducible] def b__law_both : Sms := (.cons (.asg (.nm 4) (.call 0 (.cons (.var 2) (.cons (.var 0) .nil)))) t7__law_both)
-- _law_both: slots [(0, '_law_p'), (1, '_law_q'), (2, '_law_row'), (3, '_law_same'), (4, '_law_wide'), (5, '_law_thin'), (6, '_law_one'), (7, '_law_other')]; calls ['spread', 'kept_each', '_law_is_sound', '_law_kept', '_law_spread']; cells []
abbrev s__law_places : Stmt := top 33
def n__law_places : List Str := ["_law_purse_here", "_law_pair_here", "_law_p", "_law_q", "_law_alone", "_law_size", "_law_row", "_law_k", "_law_same"]
def p__law_places : List Str := ["_law_purse_here"]
@[irreducible] def t1__law_places : Sms := (.cons (.ret (.call 4 (.cons (.var 2) (.cons (.var 3) (.cons (.sl (.var 6) .no (.yes (.call 2 (.cons (.var 0) (.cons (.bin .Add (.var 5) (.int 1)) .nil))))) (.cons .non .nil)))))) .nil)
@[irreducible] def t2__law_places : Sms := (.cons (.ife (.or (.not (.call 4 (.cons (.var 2) (.cons (.var 3) (.cons (.var 6) (.cons (.var 8) .nil)))))) (.not (.call 4 (.cons (.var 2) (.cons (.var 3) (.cons (.bin .Mult (.tup (.cons (.int 1) .nil)) (.var 3)) (.cons (.var 4) .nil))))))) (.cons (.ret (.bl false)) .nil) .nil) t1__law_places)
@[irreducible] def t3__law_places : Sms := (.cons (.ife (.var 4) (.cons (.asg (.nm 8) (.bl true)) .nil) .nil) t2__law_places)
@[irreducible] def t4__law_places : Sms := (.cons (.asg (.nm 8) .non) t3__law_places)
@[irreducible] def t5__law_places : Sms := (.cons (.asg (.nm 6) (.blt .tuple (.cons (.lc (.call 3 (.cons (.var 0) .nil)) (.nm 7) (.rng1 (.var 5)) .no) .nil))) t4__law_places)
@[irreducible] def t6__law_places : Sms := (.cons (.asg (.nm 5) (.bin .Mult (.var 3) (.call 2 (.cons (.var 0) (.cons (.bin .Add (.int 2) (.blt .min2 (.cons (.int 5) (.cons (.bin .FloorDiv (.int 400) (.bin .Mult (.var 2) (.var 3))) .nil)))) .nil))))) t5__law_places)
@[irreducible] def t7__law_places : Sms := (.cons (.asg (.nm 4) (.cmp .Eq (.call 1 (.cons (.var 2) (.cons (.var 3) .nil))) (.int 1))) t6__law_places)
@[irreducible] def t8__law_places : Sms := (.cons (.asg (.nm 3) (.blt .min2 (.cons (.ix (.var 1) (.int 1)) (.cons (.bin .FloorDiv (.int 4000) (.var 2)) .nil)))) t7__law_places)
@[irreducible] def t9__law_places : Sms := (.cons (.asg (.nm 2) (.ix (.var 1) (.int 0))) t8__law_places)
@[irreducible] def b__law_places : Sms := (.cons (.asg (.nm 1) (.call 0 (.cons (.var 0) .nil))) t9__law_places)
-- _law_places: slots [(0, '_law_purse_here'), (1, '_law_pair_here'), (2, '_law_p'), (3, '_law_q'), (4, '_law_alone'), (5, '_law_size'), (6, '_law_row'), (7, '_law_k'), (8, '_law_same')]; calls ['_law_pair', '_law_common', '_law_pick', '_law_worth', '_law_both']; cells ['_law_purse_here']
abbrev s__law_weights : Stmt := top 34
def n__law_weights : List Str := ["_law_purse_here", "_law_up", "_law_share", "_law_many", "_law_most", "_law_row", "_law_k", "_law_r", "_law_last", "_law_rest"]
def p__law_weights : List Str := ["_law_purse_here", "_law_up", "_law_share"]
@[irreducible] def t1__law_weights : Sms := (.cons (.sub (.var 5) (.var 8) (.bin .Sub (.int 4096) (.var 9))) .nil)
@[irreducible] def t2__law_weights : Sms := (.cons (.asg (.nm 9) (.bin .Sub (.blt .sum (.cons (.lc (.ix (.var 5) (.var 6)) (.nm 6) (.rng3 (.var 7) (.var 3) (.var 1)) .no) .nil)) (.ix (.var 5) (.var 8)))) t1__law_weights)
@[irreducible] def l1__law_weights : Sms := (.cons (.asg (.nm 8) (.bin .Add (.var 7) (.bin .Mult (.bin .FloorDiv (.bin .Sub (.bin .Sub (.var 3) (.int 1)) (.var 7)) (.var 1)) (.var 1)))) t2__law_weights)
@[irreducible] def t3__law_weights : Sms := (.cons (.ife (.cmp .Lt (.var 7) (.var 3)) (.cons (.sub (.var 5) (.var 7) (.bin .Add (.ix (.var 5) (.var 7)) (.ix (.lst (.cons (.int 1) (.cons (.neg (.int 1)) (.cons (.bin .Add (.int 1) (.call 0 (.cons (.var 0) (.cons (.int 700) .nil)))) .nil)))) (.call 0 (.cons (.var 0) (.cons (.int 3) .nil)))))) .nil) .nil) .nil)
@[irreducible] def l2__law_weights : Sms := (.cons (.asg (.nm 7) (.bin .Mult (.var 2) (.call 0 (.cons (.var 0) (.cons (.bin .FloorDiv (.var 1) (.var 2)) .nil))))) t3__law_weights)
@[irreducible] def t4__law_weights : Sms := (.cons (.ret (.blt .tuple (.cons (.var 5) .nil))) .nil)
@[irreducible] def t5__law_weights : Sms := (.cons (.for_ (.nm 6) (.rng1 (.ix (.lst (.cons (.int 0) (.cons (.int 0) (.cons (.int 1) (.cons (.int 2) .nil))))) (.call 0 (.cons (.var 0) (.cons (.int 4) .nil))))) l2__law_weights) t4__law_weights)
@[irreducible] def t6__law_weights : Sms := (.cons (.for_ (.nm 7) (.rng3 (.int 0) (.blt .min2 (.cons (.var 1) (.cons (.var 3) .nil))) (.var 2)) l1__law_weights) t5__law_weights)
@[irreducible] def t7__law_weights : Sms := (.cons (.ife (.cmp .Eq (.call 0 (.cons (.var 0) (.cons (.int 4) .nil))) (.int 0)) (.cons (.asg (.nm 5) (.lc (.bin .Sub (.var 6) (.bin .Mult (.bin .FloorDiv (.var 6) (.int 3)) (.int 3))) (.nm 6) (.val (.var 5)) .no)) .nil) .nil) t6__law_weights)
@[irreducible] def t8__law_weights : Sms := (.cons (.asg (.nm 5) (.lc (.bin .Sub (.call 0 (.cons (.var 0) (.cons (.bin .Add (.bin .Mult (.int 2) (.var 4)) (.int 1)) .nil))) (.var 4)) (.nm 6) (.rng1 (.var 3)) .no)) t7__law_weights)
@[irreducible] def t9__law_weights : Sms := (.cons (.asg (.nm 4) (.bin .FloorDiv (.int 60000) (.bin .Add (.bin .FloorDiv (.var 3) (.var 1)) (.int 1)))) t8__law_weights)
@[irreducible] def t10__law_weights : Sms := (.cons (.ife (.cmp .Eq (.call 0 (.cons (.var 0) (.cons (.int 6) .nil))) (.int 0)) (.cons (.asg (.nm 3) (.bin .Add (.int 1) (.call 0 (.cons (.var 0) (.cons (.var 1) .nil))))) .nil) .nil) t9__law_weights)
@[irreducible] def b__law_weights : Sms := (.cons (.asg (.nm 3) (.blt .min2 (.cons (.int 64) (.cons (.bin .Add (.var 1) (.call 0 (.cons (.var 0) (.cons (.bin .Add (.bin .Mult (.int 2) (.var 1)) (.int 4)) .nil)))) .nil)))) t10__law_weights)
-- _law_weights: slots [(0, '_law_purse_here'), (1, '_law_up'), (2, '_law_share'), (3, '_law_many'), (4, '_law_most'), (5, '_law_row'), (6, '_law_k'), (7, '_law_r'), (8, '_law_last'), (9, '_law_rest')]; calls ['_law_pick']; cells ['_law_most', '_law_purse_here', '_law_row']
abbrev s__law_bins : Stmt := top 35
def n__law_bins : List Str := ["_law_up", "_law_weights_here", "_law_bins_here", "_law_k", "_law_r"]
def p__law_bins : List Str := ["_law_up", "_law_weights_here"]
@[irreducible] def t1__law_bins : Sms := (.cons (.sub (.var 2) (.var 4) (.bin .Add (.ix (.var 2) (.var 4)) (.ix (.var 1) (.var 3)))) .nil)
@[irreducible] def l1__law_bins : Sms := (.cons (.asg (.nm 4) (.bin .Sub (.var 3) (.bin .Mult (.bin .FloorDiv (.var 3) (.var 0)) (.var 0)))) t1__law_bins)
@[irreducible] def t2__law_bins : Sms := (.cons (.ret (.var 2)) .nil)
@[irreducible] def t3__law_bins : Sms := (.cons (.for_ (.nm 3) (.rng1 (.blt .len (.cons (.var 1) .nil))) l1__law_bins) t2__law_bins)
@[irreducible] def b__law_bins : Sms := (.cons (.asg (.nm 2) (.bin .Mult (.lst (.cons (.int 0) .nil)) (.var 0))) t3__law_bins)
-- _law_bins: slots [(0, '_law_up'), (1, '_law_weights_here'), (2, '_law_bins_here'), (3, '_law_k'), (4, '_law_r')]; calls []; cells []
abbrev s__law_constant : Stmt := top 36
def n__law_constant : List Str := ["_law_worth_here", "_law_up", "_law_down", "_law_weights_here", "_law_bins_here", "_law_share", "_law_size", "_law_told", "_law_first", "_law_k", "_law_whole", "_law_rest", "_law_due"]
def p__law_constant : List Str := ["_law_worth_here", "_law_up", "_law_down", "_law_weights_here", "_law_bins_here"]
@[irreducible] def t1__law_constant : Sms := (.cons (.ife (.or (.not (.blt .isi (.cons (.ix (.var 7) (.var 9)) (.cons (.ty "int") .nil)))) (.or (.blt .isi (.cons (.ix (.var 7) (.var 9)) (.cons (.ty "bool") .nil))) (.cmp .NotEq (.ix (.var 7) (.var 9)) (.var 12)))) (.cons (.ret (.lst (.cons (.bl false) (.cons (.lst .nil) .nil)))) .nil) .nil) .nil)
@[irreducible] def t2__law_constant : Sms := (.cons (.asg (.nm 12) (.ix (.blt .sorted (.cons (.lst (.cons (.neg (.int 1048575)) (.cons (.bin .Add (.var 10) (.blt .int (.cons (.cmp .GtE (.var 11) (.int 2048)) .nil))) (.cons (.int 1048575) .nil)))) .nil)) (.int 1))) t1__law_constant)
@[irreducible] def l1__law_constant : Sms := (.cons (.asg (.tup (.cons (.nm 10) (.cons (.nm 11) .nil))) (.blt .divmod (.cons (.bin .Mult (.var 0) (.ix (.var 4) (.bin .Sub (.bin .Mult (.var 2) (.var 9)) (.bin .Mult (.bin .FloorDiv (.bin .Mult (.var 2) (.var 9)) (.var 1)) (.var 1))))) (.cons (.int 4096) .nil)))) t2__law_constant)
@[irreducible] def t3__law_constant : Sms := (.cons (.ret (.lst (.cons (.bl true) (.cons (.blt .list (.cons (.sl (.var 7) (.yes (.var 8)) .no) .nil)) .nil)))) .nil)
@[irreducible] def t4__law_constant : Sms := (.cons (.for_ (.nm 9) (.rng2 (.var 8) (.blt .len (.cons (.var 7) .nil))) l1__law_constant) t3__law_constant)
@[irreducible] def t5__law_constant : Sms := (.cons (.asg (.nm 8) (.bin .FloorDiv (.bin .Sub (.bin .Add (.bin .Sub (.blt .len (.cons (.var 3) .nil)) (.int 1)) (.var 2)) (.int 1)) (.var 2))) t4__law_constant)
@[irreducible] def t6__law_constant : Sms := (.cons (.ife (.or (.not (.blt .isi (.cons (.var 7) (.cons (.ty "tuple") .nil)))) (.cmp .NotEq (.blt .len (.cons (.var 7) .nil)) (.bin .FloorDiv (.bin .Sub (.bin .Add (.bin .Mult (.var 6) (.var 1)) (.var 2)) (.int 1)) (.var 2)))) (.cons (.ret (.lst (.cons (.bl false) (.cons (.lst .nil) .nil)))) .nil) .nil) t5__law_constant)
@[irreducible] def t7__law_constant : Sms := (.cons (.asg (.nm 7) (.call 1 (.cons (.bin .Mult (.tup (.cons (.var 0) .nil)) (.var 6)) (.cons (.var 1) (.cons (.var 2) (.cons (.var 3) .nil)))))) t6__law_constant)
@[irreducible] def t8__law_constant : Sms := (.cons (.asg (.nm 6) (.bin .Add (.bin .FloorDiv (.bin .Add (.bin .Sub (.blt .len (.cons (.var 3) .nil)) (.int 1)) (.bin .Mult (.var 2) (.bin .Add (.bin .FloorDiv (.var 1) (.var 5)) (.int 1)))) (.var 1)) (.int 2))) t7__law_constant)
@[irreducible] def b__law_constant : Sms := (.cons (.asg (.nm 5) (.call 0 (.cons (.var 1) (.cons (.var 2) .nil)))) t8__law_constant)
-- _law_constant: slots [(0, '_law_worth_here'), (1, '_law_up'), (2, '_law_down'), (3, '_law_weights_here'), (4, '_law_bins_here'), (5, '_law_share'), (6, '_law_size'), (7, '_law_told'), (8, '_law_first'), (9, '_law_k'), (10, '_law_whole'), (11, '_law_rest'), (12, '_law_due')]; calls ['_law_common', 'resampled']; cells []
abbrev s__law_steady : Stmt := top 37
def n__law_steady : List Str := ["_law_purse_here", "_law_pair_here", "_law_share", "_law_weights_here", "_law_bins_here", "_law_bad", "_law_r", "_law_told", "_law_worth_here", "_law_one", "_law_unit", "_law_x"]
def p__law_steady : List Str := ["_law_purse_here"]
@[irreducible] def t1__law_steady : Sms := (.cons (.ret (.cmp .NotEq (.lc (.var 11) (.nm 11) (.val (.ix (.var 10) (.int 1))) (.yes (.cmp .NotEq (.var 11) (.int 4096)))) (.lst .nil))) .nil)
@[irreducible] def t2__law_steady : Sms := (.cons (.ife (.cmp .Eq (.blt .len (.cons (.var 5) .nil)) (.int 0)) (.cons (.ret (.cmp .Eq (.lc (.var 11) (.nm 11) (.val (.ix (.var 9) (.int 1))) (.yes (.cmp .NotEq (.var 11) (.var 8)))) (.lst .nil))) .nil) .nil) t1__law_steady)
@[irreducible] def t3__law_steady : Sms := (.cons (.ife (.or (.not (.ix (.var 9) (.int 0))) (.or (.not (.ix (.var 10) (.int 0))) (.cmp .Eq (.blt .len (.cons (.ix (.var 10) (.int 1)) .nil)) (.int 0)))) (.cons (.ret (.bl false)) .nil) .nil) t2__law_steady)
@[irreducible] def t4__law_steady : Sms := (.cons (.asg (.nm 10) (.call 6 (.cons (.int 4096) (.cons (.ix (.var 1) (.int 0)) (.cons (.ix (.var 1) (.int 1)) (.cons (.var 3) (.cons (.var 4) .nil))))))) t3__law_steady)
@[irreducible] def t5__law_steady : Sms := (.cons (.asg (.nm 9) (.call 6 (.cons (.var 8) (.cons (.ix (.var 1) (.int 0)) (.cons (.ix (.var 1) (.int 1)) (.cons (.var 3) (.cons (.var 4) .nil))))))) t4__law_steady)
@[irreducible] def t6__law_steady : Sms := (.cons (.asg (.nm 8) (.call 5 (.cons (.var 0) .nil))) t5__law_steady)
@[irreducible] def t7__law_steady : Sms := (.cons (.ife (.cmp .Eq (.blt .len (.cons (.var 5) .nil)) (.int 0)) (.cons (.ife (.cmp .IsNot (.var 7) (.bl true)) (.cons (.ret (.bl false)) .nil) .nil) .nil) (.cons (.ife (.or (.not (.blt .isi (.cons (.var 7) (.cons (.ty "int") .nil)))) (.or (.blt .isi (.cons (.var 7) (.cons (.ty "bool") .nil))) (.cmp .NotEq (.var 7) (.ix (.var 5) (.int 0))))) (.cons (.ret (.bl false)) .nil) .nil) .nil)) t6__law_steady)
@[irreducible] def t8__law_steady : Sms := (.cons (.asg (.nm 7) (.call 4 (.cons (.ix (.var 1) (.int 0)) (.cons (.ix (.var 1) (.int 1)) (.cons (.var 3) .nil))))) t7__law_steady)
@[irreducible] def t9__law_steady : Sms := (.cons (.setLc 5 (.var 6) (.nm 6) (.rng3 (.int 0) (.ix (.var 1) (.int 0)) (.var 2)) (.yes (.cmp .NotEq (.ix (.var 4) (.var 6)) (.int 4096)))) t8__law_steady)
@[irreducible] def t10__law_steady : Sms := (.cons (.asg (.nm 4) (.call 3 (.cons (.ix (.var 1) (.int 0)) (.cons (.var 3) .nil)))) t9__law_steady)
@[irreducible] def t11__law_steady : Sms := (.cons (.asg (.nm 3) (.call 2 (.cons (.var 0) (.cons (.ix (.var 1) (.int 0)) (.cons (.var 2) .nil))))) t10__law_steady)
@[irreducible] def t12__law_steady : Sms := (.cons (.asg (.nm 2) (.call 1 (.cons (.ix (.var 1) (.int 0)) (.cons (.ix (.var 1) (.int 1)) .nil)))) t11__law_steady)
@[irreducible] def b__law_steady : Sms := (.cons (.asg (.nm 1) (.call 0 (.cons (.var 0) .nil))) t12__law_steady)
-- _law_steady: slots [(0, '_law_purse_here'), (1, '_law_pair_here'), (2, '_law_share'), (3, '_law_weights_here'), (4, '_law_bins_here'), (5, '_law_bad'), (6, '_law_r'), (7, '_law_told'), (8, '_law_worth_here'), (9, '_law_one'), (10, '_law_unit'), (11, '_law_x')]; calls ['_law_pair', '_law_common', '_law_weights', '_law_bins', 'steady', '_law_worth', '_law_constant']; cells ['_law_bins_here', '_law_worth_here']
abbrev s__law_refused : Stmt := top 38
def n__law_refused : List Str := ["_law_which", "_law_a", "_law_b", "_law_c", "e"]
def p__law_refused : List Str := ["_law_which", "_law_a", "_law_b", "_law_c"]
@[irreducible] def t1__law_refused : Sms := (.cons (.ret (.lst (.cons (.str "none") (.cons (.int 0) .nil)))) .nil)
@[irreducible] def b__law_refused : Sms := (.cons (.tryAs (.cons (.ife (.cmp .Eq (.var 0) (.int 0)) (.cons (.expr (.call 0 (.cons (.var 1) (.cons (.var 2) .nil)))) .nil) (.cons (.ife (.cmp .Eq (.var 0) (.int 1)) (.cons (.expr (.call 1 (.cons (.var 1) (.cons (.var 2) .nil)))) .nil) (.cons (.expr (.call 2 (.cons (.var 1) (.cons (.var 2) (.cons (.var 3) .nil))))) .nil)) .nil)) .nil) 0 4 (.lst (.cons (.fld "word") (.cons (.fld "at") .nil)))) t1__law_refused)
-- _law_refused: slots [(0, '_law_which'), (1, '_law_a'), (2, '_law_b'), (3, '_law_c'), (4, 'e')]; calls ['spread', 'kept_each', 'steady']; cells []
abbrev s__law_refusals : Stmt := top 39
def n__law_refusals : List Str := ["_law_purse_here", "_law_rows", "_law_rates", "_law_taps", "_law_row", "_law_rate", "_law_tap", "_law_asks", "_law_ask", "_law_told"]
def p__law_refusals : List Str := ["_law_purse_here"]
@[irreducible] def t1__law_refusals : Sms := (.cons (.ife (.or (.not (.blt .isi (.cons (.ix (.var 9) (.int 0)) (.cons (.ty "str") .nil)))) (.or (.cmp .NotEq (.ix (.var 9) (.int 0)) (.ix (.var 8) (.int 4))) (.or (.blt .isi (.cons (.ix (.var 9) (.int 1)) (.cons (.ty "bool") .nil))) (.cmp .NotEq (.ix (.var 9) (.int 1)) (.neg (.int 1)))))) (.cons (.ret (.bl false)) .nil) .nil) .nil)
@[irreducible] def l1__law_refusals : Sms := (.cons (.asg (.nm 9) (.call 1 (.cons (.ix (.var 8) (.int 0)) (.cons (.ix (.var 8) (.int 1)) (.cons (.ix (.var 8) (.int 2)) (.cons (.ix (.var 8) (.int 3)) .nil)))))) t1__law_refusals)
@[irreducible] def t2__law_refusals : Sms := (.cons (.ret (.bl true)) .nil)
@[irreducible] def t3__law_refusals : Sms := (.cons (.for_ (.nm 8) (.val (.var 7)) l1__law_refusals) t2__law_refusals)
@[irreducible] def t4__law_refusals : Sms := (.cons (.asg (.nm 7) (.bin .Add (.var 7) (.lst (.cons (.lst (.cons (.int 2) (.cons (.int 1) (.cons (.var 5) (.cons (.tup (.cons (.int 4096) .nil)) (.cons (.str "down") .nil)))))) (.cons (.lst (.cons (.int 2) (.cons (.int 1) (.cons (.int 1) (.cons (.var 6) (.cons (.str "weights") .nil)))))) (.cons (.lst (.cons (.int 2) (.cons (.var 5) (.cons (.var 5) (.cons (.var 6) (.cons (.str "up") .nil)))))) (.cons (.lst (.cons (.int 2) (.cons (.int 64) (.cons (.var 5) (.cons (.var 6) (.cons (.str "down") .nil)))))) .nil))))))) t3__law_refusals)
@[irreducible] def t5__law_refusals : Sms := (.cons (.asg (.nm 7) (.bin .Add (.var 7) (.lst (.cons (.lst (.cons (.int 0) (.cons (.var 4) (.cons (.var 5) (.cons (.int 0) (.cons (.str "sound") .nil)))))) (.cons (.lst (.cons (.int 1) (.cons (.var 4) (.cons (.var 5) (.cons (.int 0) (.cons (.str "sound") .nil)))))) (.cons (.lst (.cons (.int 2) (.cons (.var 5) (.cons (.int 1) (.cons (.tup (.cons (.int 4096) .nil)) (.cons (.str "up") .nil)))))) .nil)))))) t4__law_refusals)
@[irreducible] def t6__law_refusals : Sms := (.cons (.asg (.nm 7) (.lst (.cons (.lst (.cons (.int 0) (.cons (.var 4) (.cons (.int 2) (.cons (.int 0) (.cons (.str "sound") .nil)))))) (.cons (.lst (.cons (.int 1) (.cons (.var 4) (.cons (.int 2) (.cons (.int 0) (.cons (.str "sound") .nil)))))) (.cons (.lst (.cons (.int 0) (.cons (.tup (.cons (.int 3) .nil)) (.cons (.var 5) (.cons (.int 0) (.cons (.str "many") .nil)))))) (.cons (.lst (.cons (.int 1) (.cons (.tup (.cons (.int 3) .nil)) (.cons (.var 5) (.cons (.int 0) (.cons (.str "many") .nil)))))) .nil)))))) t5__law_refusals)
@[irreducible] def t7__law_refusals : Sms := (.cons (.asg (.nm 6) (.ix (.var 3) (.call 0 (.cons (.var 0) (.cons (.int 9) .nil))))) t6__law_refusals)
@[irreducible] def t8__law_refusals : Sms := (.cons (.asg (.nm 5) (.ix (.var 2) (.call 0 (.cons (.var 0) (.cons (.int 9) .nil))))) t7__law_refusals)
@[irreducible] def t9__law_refusals : Sms := (.cons (.asg (.nm 4) (.ix (.var 1) (.call 0 (.cons (.var 0) (.cons (.int 8) .nil))))) t8__law_refusals)
@[irreducible] def t10__law_refusals : Sms := (.cons (.asg (.nm 3) (.lst (.cons (.tup .nil) (.cons (.bin .Mult (.tup (.cons (.int 0) .nil)) (.int 65)) (.cons (.tup (.cons (.int 65537) .nil)) (.cons (.tup (.cons (.int 1) (.cons (.neg (.int 65537)) .nil))) (.cons (.tup (.cons (.bl true) .nil)) (.cons (.lst (.cons (.int 4096) .nil)) (.cons .non (.cons (.tup (.cons (.str "1") .nil)) (.cons (.int 7) .nil))))))))))) t9__law_refusals)
@[irreducible] def t11__law_refusals : Sms := (.cons (.asg (.nm 2) (.lst (.cons (.int 0) (.cons (.int 65) (.cons (.bl true) (.cons .non (.cons (.neg (.int 1)) (.cons (.str "2") (.cons (.tup (.cons (.int 2) .nil)) (.cons (.bl false) (.cons (.bin .Pow (.int 10) (.int 30)) .nil))))))))))) t10__law_refusals)
@[irreducible] def b__law_refusals : Sms := (.cons (.asg (.nm 1) (.lst (.cons (.lst (.cons (.int 1) .nil)) (.cons (.tup (.cons (.bl true) .nil)) (.cons (.tup (.cons (.int 1048576) .nil)) (.cons (.tup (.cons (.int 0) (.cons (.neg (.int 1048576)) .nil))) (.cons .non (.cons (.str "") (.cons (.tup (.cons .non .nil)) (.cons (.int 2) .nil)))))))))) t11__law_refusals)
-- _law_refusals: slots [(0, '_law_purse_here'), (1, '_law_rows'), (2, '_law_rates'), (3, '_law_taps'), (4, '_law_row'), (5, '_law_rate'), (6, '_law_tap'), (7, '_law_asks'), (8, '_law_ask'), (9, '_law_told')]; calls ['_law_pick', '_law_refused']; cells []
abbrev s_law : Stmt := top 40
def n_law : List Str := ["_law_script", "_law_purse_here"]
def p_law : List Str := ["_law_script"]
@[irreducible] def t1_law : Sms := (.cons (.ret (.and (.call 3 (.cons (.var 1) .nil)) (.and (.call 2 (.cons (.var 1) .nil)) (.call 1 (.cons (.var 1) .nil))))) .nil)
@[irreducible] def b_law : Sms := (.cons (.asg (.nm 1) (.call 0 (.cons (.var 0) .nil))) t1_law)
-- law: slots [(0, '_law_script'), (1, '_law_purse_here')]; calls ['_law_purse', '_law_refusals', '_law_steady', '_law_places']; cells []

theorem c_is_integer : chkSs n_is_integer (defScope s_is_integer) (tabOf (([] : List Str).map fun (x : Str) => (x, fun _ _ _ _ => False)) [("TOP", .int 1048575)] xcs sub) false b_is_integer (defBody s_is_integer) = true := by decide +kernel
theorem c_is_worth : chkSs n_is_worth (defScope s_is_worth) (tabOf ((["is_integer"] : List Str).map fun (x : Str) => (x, fun _ _ _ _ => False)) [("TOP", .int 1048575)] xcs sub) false b_is_worth (defBody s_is_worth) = true := by decide +kernel
theorem c_is_sound : chkSs n_is_sound (defScope s_is_sound) (tabOf ((["is_worth"] : List Str).map fun (x : Str) => (x, fun _ _ _ _ => False)) [("TOP", .int 1048575)] xcs sub) false b_is_sound (defBody s_is_sound) = true := by decide +kernel
theorem c_is_mode : chkSs n_is_mode (defScope s_is_mode) (tabOf (([] : List Str).map fun (x : Str) => (x, fun _ _ _ _ => False)) [("TOP", .int 1048575)] xcs sub) false b_is_mode (defBody s_is_mode) = true := by decide +kernel
theorem c__look_spread : chkSs n__look_spread (defScope s__look_spread) (tabOf ((["is_sound", "is_integer"] : List Str).map fun (x : Str) => (x, fun _ _ _ _ => False)) [("TOP", .int 1048575)] xcs sub) false b__look_spread (defBody s__look_spread) = true := by decide +kernel
theorem c_spread : chkSs n_spread (defScope s_spread) (tabOf ((["_look_spread"] : List Str).map fun (x : Str) => (x, fun _ _ _ _ => False)) [("TOP", .int 1048575)] xcs sub) false b_spread (defBody s_spread) = true := by decide +kernel
theorem c_kept_each : chkSs n_kept_each (defScope s_kept_each) (tabOf ((["_look_spread"] : List Str).map fun (x : Str) => (x, fun _ _ _ _ => False)) [("TOP", .int 1048575)] xcs sub) false b_kept_each (defBody s_kept_each) = true := by decide +kernel
theorem c_clip : chkSs n_clip (defScope s_clip) (tabOf ((["is_integer"] : List Str).map fun (x : Str) => (x, fun _ _ _ _ => False)) [("TOP", .int 1048575)] xcs sub) false b_clip (defBody s_clip) = true := by decide +kernel
theorem c_turned : chkSs n_turned (defScope s_turned) (tabOf ((["is_integer", "is_mode"] : List Str).map fun (x : Str) => (x, fun _ _ _ _ => False)) [("TOP", .int 1048575)] xcs sub) false b_turned (defBody s_turned) = true := by decide +kernel
theorem c__resample_rates : chkSs n__resample_rates (defScope s__resample_rates) (tabOf ((["is_integer"] : List Str).map fun (x : Str) => (x, fun _ _ _ _ => False)) [("TOP", .int 1048575)] xcs sub) false b__resample_rates (defBody s__resample_rates) = true := by decide +kernel
theorem c__resample_sum : chkSs n__resample_sum (defScope s__resample_sum) (tabOf ((["clip", "turned"] : List Str).map fun (x : Str) => (x, fun _ _ _ _ => False)) [("TOP", .int 1048575)] xcs sub) false b__resample_sum (defBody s__resample_sum) = true := by decide +kernel
theorem c_resampled : chkSs n_resampled (defScope s_resampled) (tabOf ((["is_sound", "_resample_rates", "_resample_sum"] : List Str).map fun (x : Str) => (x, fun _ _ _ _ => False)) [("TOP", .int 1048575)] xcs sub) false b_resampled (defBody s_resampled) = true := by decide +kernel
theorem c__rate_divisor : chkSs n__rate_divisor (defScope s__rate_divisor) (tabOf (([] : List Str).map fun (x : Str) => (x, fun _ _ _ _ => False)) [("TOP", .int 1048575)] xcs sub) false b__rate_divisor (defBody s__rate_divisor) = true := by decide +kernel
theorem c_steady : chkSs n_steady (defScope s_steady) (tabOf ((["_resample_rates", "_rate_divisor"] : List Str).map fun (x : Str) => (x, fun _ _ _ _ => False)) [("TOP", .int 1048575)] xcs sub) false b_steady (defBody s_steady) = true := by decide +kernel
theorem c__law_purse : chkSs n__law_purse (defScope s__law_purse) (tabOf (([] : List Str).map fun (x : Str) => (x, fun _ _ _ _ => False)) [("TOP", .int 1048575)] xcs sub) false b__law_purse (defBody s__law_purse) = true := by decide +kernel
theorem c__law_pick : chkSs n__law_pick (defScope s__law_pick) (tabOf (([] : List Str).map fun (x : Str) => (x, fun _ _ _ _ => False)) [("TOP", .int 1048575)] xcs sub) false b__law_pick (defBody s__law_pick) = true := by decide +kernel
theorem c__law_worth : chkSs n__law_worth (defScope s__law_worth) (tabOf ((["_law_pick"] : List Str).map fun (x : Str) => (x, fun _ _ _ _ => False)) [("TOP", .int 1048575)] xcs sub) false b__law_worth (defBody s__law_worth) = true := by decide +kernel
theorem c__law_common : chkSs n__law_common (defScope s__law_common) (tabOf (([] : List Str).map fun (x : Str) => (x, fun _ _ _ _ => False)) [("TOP", .int 1048575)] xcs sub) false b__law_common (defBody s__law_common) = true := by decide +kernel
theorem c__law_pair : chkSs n__law_pair (defScope s__law_pair) (tabOf ((["_law_pick"] : List Str).map fun (x : Str) => (x, fun _ _ _ _ => False)) [("TOP", .int 1048575)] xcs sub) false b__law_pair (defBody s__law_pair) = true := by decide +kernel
theorem c__law_spread : chkSs n__law_spread (defScope s__law_spread) (tabOf (([] : List Str).map fun (x : Str) => (x, fun _ _ _ _ => False)) [("TOP", .int 1048575)] xcs sub) false b__law_spread (defBody s__law_spread) = true := by decide +kernel
theorem c__law_kept : chkSs n__law_kept (defScope s__law_kept) (tabOf (([] : List Str).map fun (x : Str) => (x, fun _ _ _ _ => False)) [("TOP", .int 1048575)] xcs sub) false b__law_kept (defBody s__law_kept) = true := by decide +kernel
theorem c__law_is_sound : chkSs n__law_is_sound (defScope s__law_is_sound) (tabOf (([] : List Str).map fun (x : Str) => (x, fun _ _ _ _ => False)) [("TOP", .int 1048575)] xcs sub) false b__law_is_sound (defBody s__law_is_sound) = true := by decide +kernel
theorem c__law_both : chkSs n__law_both (defScope s__law_both) (tabOf ((["spread", "kept_each", "_law_is_sound", "_law_kept", "_law_spread"] : List Str).map fun (x : Str) => (x, fun _ _ _ _ => False)) [("TOP", .int 1048575)] xcs sub) false b__law_both (defBody s__law_both) = true := by decide +kernel
theorem c__law_places : chkSs n__law_places (defScope s__law_places) (tabOf ((["_law_pair", "_law_common", "_law_pick", "_law_worth", "_law_both"] : List Str).map fun (x : Str) => (x, fun _ _ _ _ => False)) [("TOP", .int 1048575)] xcs sub) false b__law_places (defBody s__law_places) = true := by decide +kernel
theorem c__law_weights : chkSs n__law_weights (defScope s__law_weights) (tabOf ((["_law_pick"] : List Str).map fun (x : Str) => (x, fun _ _ _ _ => False)) [("TOP", .int 1048575)] xcs sub) false b__law_weights (defBody s__law_weights) = true := by decide +kernel
theorem c__law_bins : chkSs n__law_bins (defScope s__law_bins) (tabOf (([] : List Str).map fun (x : Str) => (x, fun _ _ _ _ => False)) [("TOP", .int 1048575)] xcs sub) false b__law_bins (defBody s__law_bins) = true := by decide +kernel
theorem c__law_constant : chkSs n__law_constant (defScope s__law_constant) (tabOf ((["_law_common", "resampled"] : List Str).map fun (x : Str) => (x, fun _ _ _ _ => False)) [("TOP", .int 1048575)] xcs sub) false b__law_constant (defBody s__law_constant) = true := by decide +kernel
theorem c__law_steady : chkSs n__law_steady (defScope s__law_steady) (tabOf ((["_law_pair", "_law_common", "_law_weights", "_law_bins", "steady", "_law_worth", "_law_constant"] : List Str).map fun (x : Str) => (x, fun _ _ _ _ => False)) [("TOP", .int 1048575)] xcs sub) false b__law_steady (defBody s__law_steady) = true := by decide +kernel
theorem c__law_refused : chkSs n__law_refused (defScope s__law_refused) (tabOf ((["spread", "kept_each", "steady"] : List Str).map fun (x : Str) => (x, fun _ _ _ _ => False)) [("TOP", .int 1048575)] xcs sub) false b__law_refused (defBody s__law_refused) = true := by decide +kernel
theorem c__law_refusals : chkSs n__law_refusals (defScope s__law_refusals) (tabOf ((["_law_pick", "_law_refused"] : List Str).map fun (x : Str) => (x, fun _ _ _ _ => False)) [("TOP", .int 1048575)] xcs sub) false b__law_refusals (defBody s__law_refusals) = true := by decide +kernel
theorem c_law : chkSs n_law (defScope s_law) (tabOf ((["_law_purse", "_law_refusals", "_law_steady", "_law_places"] : List Str).map fun (x : Str) => (x, fun _ _ _ _ => False)) [("TOP", .int 1048575)] xcs sub) false b_law (defBody s_law) = true := by decide +kernel
end K71
set_option Elab.async false
set_option linter.all false
set_option autoImplicit false
set_option maxRecDepth 100000
set_option maxHeartbeats 4000000
namespace K71
open PySem PySem.Spec L2 UL
def gls : List (Str × U) := [("TOP", .int 1048575)]
abbrev TB (cl : List (Str × USp)) : Tab2 := tabOf cl gls xcs sub
abbrev GM (cl : List (Str × USp)) : Gam := gam cl gls
def isW : U → Bool
  | .int i => decide (-1048575 ≤ i) && decide (i ≤ 1048575)
  | _ => false
def isS : U → Bool
  | .tup us => us.all isW
  | _ => false
def okM : U → Bool
  | .int i => decide (1 ≤ i) && decide (i ≤ 64)
  | _ => false
def okS (G : UH) (u : U) : Prop := tyS G u ∧ ∀ ws, u = .tup ws → ∀ x ∈ ws, tyS G x
def xnu (w : Str) : UXn := (0, [.int (-1), .str w])
def tupL : U → List U
  | .tup ws => ws
  | _ => []
def intV : U → Int
  | .int i => i
  | _ => 0
/-! ### is_integer -/
def sp_is_integer : USp := fun us G Q _ => ∃ u, us = [u] ∧ tyS G u ∧ Q (.bl (isI u)) G
def cl_is_integer : List (Str × USp) := []
theorem isI_k {u : U} : isI u = (if kI u = true then !kB u else kI u) := by cases u <;> rfl
theorem w_is_integer (us : List U) (G : UH) (Q : UK) (E : UXn → UH → Prop) (h : sp_is_integer us G Q E) : trSs (TB cl_is_integer) (GM cl_is_integer) b_is_integer (UD Q E) (startU n_is_integer us) G := by
  obtain ⟨u, rfl, ht, q⟩ := h
  simp only [trSs, trS, trE, trT, trX, pl, trA, trO, trC, trI, uBin_s, uUn_s, uVar_s, uC_s, getS, setS, uOp, uAdd, uSub, uMul, uDiv, uMod, uPow, uNeg, uCmp, uEqF, uLt, uLe, uGt, uGe, uIsF, isNonU, uTru, Blt.fn, uLen, uAbs, uMax2, uMin2, uInt, uIx, startU, gam_fn, gam_gl, tab_xcs, tab_sub, UD_nx, UD_rt, UD_bk, UD_ct, UD_ex, spAt, glAt, gls, seqOf, List.map_cons, List.map_nil, List.cons_append, List.nil_append, List.length_cons, List.length_nil, List.replicate, Nat.reduceAdd, Nat.reduceSub, Nat.zero_add, reduceIte, Bool.false_eq_true, Bool.true_eq_false, Bool.false_bne, Bool.true_bne, Bool.not_true, Bool.not_false, Bool.not_not, List.reverse_cons, List.reverse_nil, Option.map_some, Option.map_none, up_same, uTuple, uList, uSet, atI_zero, atI_one, ixN_20, ixN_zero, List.set_cons_zero, uPow, b_is_integer, n_is_integer]
  refine isi_int ht ?_
  simp only [trSs, trS, trE, trT, trX, pl, trA, trO, trC, trI, uBin_s, uUn_s, uVar_s, uC_s, getS, setS, uOp, uAdd, uSub, uMul, uDiv, uMod, uPow, uNeg, uCmp, uEqF, uLt, uLe, uGt, uGe, uIsF, isNonU, uTru, Blt.fn, uLen, uAbs, uMax2, uMin2, uInt, uIx, startU, gam_fn, gam_gl, tab_xcs, tab_sub, UD_nx, UD_rt, UD_bk, UD_ct, UD_ex, spAt, glAt, gls, seqOf, List.map_cons, List.map_nil, List.cons_append, List.nil_append, List.length_cons, List.length_nil, List.replicate, Nat.reduceAdd, Nat.reduceSub, Nat.zero_add, reduceIte, Bool.false_eq_true, Bool.true_eq_false, Bool.false_bne, Bool.true_bne, Bool.not_true, Bool.not_false, Bool.not_not, List.reverse_cons, List.reverse_nil, Option.map_some, Option.map_none, up_same, uTuple, uList, uSet, atI_zero, atI_one, ixN_20, ixN_zero, List.set_cons_zero, uPow]
  cases e : kI u with
  | false =>
    simp only [trSs, trS, trE, trT, trX, pl, trA, trO, trC, trI, uBin_s, uUn_s, uVar_s, uC_s, getS, setS, uOp, uAdd, uSub, uMul, uDiv, uMod, uPow, uNeg, uCmp, uEqF, uLt, uLe, uGt, uGe, uIsF, isNonU, uTru, Blt.fn, uLen, uAbs, uMax2, uMin2, uInt, uIx, startU, gam_fn, gam_gl, tab_xcs, tab_sub, UD_nx, UD_rt, UD_bk, UD_ct, UD_ex, spAt, glAt, gls, seqOf, List.map_cons, List.map_nil, List.cons_append, List.nil_append, List.length_cons, List.length_nil, List.replicate, Nat.reduceAdd, Nat.reduceSub, Nat.zero_add, reduceIte, Bool.false_eq_true, Bool.true_eq_false, Bool.false_bne, Bool.true_bne, Bool.not_true, Bool.not_false, Bool.not_not, List.reverse_cons, List.reverse_nil, Option.map_some, Option.map_none, up_same, uTuple, uList, uSet, atI_zero, atI_one, ixN_20, ixN_zero, List.set_cons_zero, uPow]
    refine fin.of ?_
    rw [isI_k, e] at q
    exact q
  | true =>
    simp only [trSs, trS, trE, trT, trX, pl, trA, trO, trC, trI, uBin_s, uUn_s, uVar_s, uC_s, getS, setS, uOp, uAdd, uSub, uMul, uDiv, uMod, uPow, uNeg, uCmp, uEqF, uLt, uLe, uGt, uGe, uIsF, isNonU, uTru, Blt.fn, uLen, uAbs, uMax2, uMin2, uInt, uIx, startU, gam_fn, gam_gl, tab_xcs, tab_sub, UD_nx, UD_rt, UD_bk, UD_ct, UD_ex, spAt, glAt, gls, seqOf, List.map_cons, List.map_nil, List.cons_append, List.nil_append, List.length_cons, List.length_nil, List.replicate, Nat.reduceAdd, Nat.reduceSub, Nat.zero_add, reduceIte, Bool.false_eq_true, Bool.true_eq_false, Bool.false_bne, Bool.true_bne, Bool.not_true, Bool.not_false, Bool.not_not, List.reverse_cons, List.reverse_nil, Option.map_some, Option.map_none, up_same, uTuple, uList, uSet, atI_zero, atI_one, ixN_20, ixN_zero, List.set_cons_zero, uPow]
    refine isi_bool ht ?_
    simp only [trSs, trS, trE, trT, trX, pl, trA, trO, trC, trI, uBin_s, uUn_s, uVar_s, uC_s, getS, setS, uOp, uAdd, uSub, uMul, uDiv, uMod, uPow, uNeg, uCmp, uEqF, uLt, uLe, uGt, uGe, uIsF, isNonU, uTru, Blt.fn, uLen, uAbs, uMax2, uMin2, uInt, uIx, startU, gam_fn, gam_gl, tab_xcs, tab_sub, UD_nx, UD_rt, UD_bk, UD_ct, UD_ex, spAt, glAt, gls, seqOf, List.map_cons, List.map_nil, List.cons_append, List.nil_append, List.length_cons, List.length_nil, List.replicate, Nat.reduceAdd, Nat.reduceSub, Nat.zero_add, reduceIte, Bool.false_eq_true, Bool.true_eq_false, Bool.false_bne, Bool.true_bne, Bool.not_true, Bool.not_false, Bool.not_not, List.reverse_cons, List.reverse_nil, Option.map_some, Option.map_none, up_same, uTuple, uList, uSet, atI_zero, atI_one, ixN_20, ixN_zero, List.set_cons_zero, uPow]
    refine fin.of ?_
    rw [isI_k, e] at q
    exact q
/-! ### is_worth -/
def sp_is_worth : USp := fun us G Q _ => ∃ u, us = [u] ∧ tyS G u ∧ Q (.bl (isW u)) G
def cl_is_worth : List (Str × USp) := [("is_integer", sp_is_integer)]
theorem w_is_worth (us : List U) (G : UH) (Q : UK) (E : UXn → UH → Prop) (h : sp_is_worth us G Q E) : trSs (TB cl_is_worth) (GM cl_is_worth) b_is_worth (UD Q E) (startU n_is_worth us) G := by
  obtain ⟨u, rfl, ht, q⟩ := h
  simp only [trSs, trS, trE, trT, trX, pl, trA, trO, trC, trI, uBin_s, uUn_s, uVar_s, uC_s, getS, setS, uOp, uAdd, uSub, uMul, uDiv, uMod, uPow, uNeg, uCmp, uEqF, uLt, uLe, uGt, uGe, uIsF, isNonU, uTru, Blt.fn, uLen, uAbs, uMax2, uMin2, uInt, uIx, startU, gam_fn, gam_gl, tab_xcs, tab_sub, UD_nx, UD_rt, UD_bk, UD_ct, UD_ex, spAt, glAt, gls, seqOf, List.map_cons, List.map_nil, List.cons_append, List.nil_append, List.length_cons, List.length_nil, List.replicate, Nat.reduceAdd, Nat.reduceSub, Nat.zero_add, reduceIte, Bool.false_eq_true, Bool.true_eq_false, Bool.false_bne, Bool.true_bne, Bool.not_true, Bool.not_false, Bool.not_not, List.reverse_cons, List.reverse_nil, Option.map_some, Option.map_none, up_same, uTuple, uList, uSet, atI_zero, atI_one, ixN_20, ixN_zero, List.set_cons_zero, uPow, b_is_worth, n_is_worth, cl_is_worth]
  refine ⟨u, rfl, ht, ?_⟩
  cases u with
  | int i =>
    simp only [trSs, trS, trE, trT, trX, pl, trA, trO, trC, trI, uBin_s, uUn_s, uVar_s, uC_s, getS, setS, uOp, uAdd, uSub, uMul, uDiv, uMod, uPow, uNeg, uCmp, uEqF, uLt, uLe, uGt, uGe, uIsF, isNonU, uTru, Blt.fn, uLen, uAbs, uMax2, uMin2, uInt, uIx, startU, gam_fn, gam_gl, tab_xcs, tab_sub, UD_nx, UD_rt, UD_bk, UD_ct, UD_ex, spAt, glAt, gls, seqOf, List.map_cons, List.map_nil, List.cons_append, List.nil_append, List.length_cons, List.length_nil, List.replicate, Nat.reduceAdd, Nat.reduceSub, Nat.zero_add, reduceIte, Bool.false_eq_true, Bool.true_eq_false, Bool.false_bne, Bool.true_bne, Bool.not_true, Bool.not_false, Bool.not_not, List.reverse_cons, List.reverse_nil, Option.map_some, Option.map_none, up_same, uTuple, uList, uSet, atI_zero, atI_one, ixN_20, ixN_zero, List.set_cons_zero, uPow, isI]
    by_cases h1 : (-1048575 : Int) ≤ i
    · simp only [trSs, trS, trE, trT, trX, pl, trA, trO, trC, trI, uBin_s, uUn_s, uVar_s, uC_s, getS, setS, uOp, uAdd, uSub, uMul, uDiv, uMod, uPow, uNeg, uCmp, uEqF, uLt, uLe, uGt, uGe, uIsF, isNonU, uTru, Blt.fn, uLen, uAbs, uMax2, uMin2, uInt, uIx, startU, gam_fn, gam_gl, tab_xcs, tab_sub, UD_nx, UD_rt, UD_bk, UD_ct, UD_ex, spAt, glAt, gls, seqOf, List.map_cons, List.map_nil, List.cons_append, List.nil_append, List.length_cons, List.length_nil, List.replicate, Nat.reduceAdd, Nat.reduceSub, Nat.zero_add, reduceIte, Bool.false_eq_true, Bool.true_eq_false, Bool.false_bne, Bool.true_bne, Bool.not_true, Bool.not_false, Bool.not_not, List.reverse_cons, List.reverse_nil, Option.map_some, Option.map_none, up_same, uTuple, uList, uSet, atI_zero, atI_one, ixN_20, ixN_zero, List.set_cons_zero, uPow, h1, decide_true]
      refine fin.of ?_
      simpa [isW, h1] using q
    · simp only [trSs, trS, trE, trT, trX, pl, trA, trO, trC, trI, uBin_s, uUn_s, uVar_s, uC_s, getS, setS, uOp, uAdd, uSub, uMul, uDiv, uMod, uPow, uNeg, uCmp, uEqF, uLt, uLe, uGt, uGe, uIsF, isNonU, uTru, Blt.fn, uLen, uAbs, uMax2, uMin2, uInt, uIx, startU, gam_fn, gam_gl, tab_xcs, tab_sub, UD_nx, UD_rt, UD_bk, UD_ct, UD_ex, spAt, glAt, gls, seqOf, List.map_cons, List.map_nil, List.cons_append, List.nil_append, List.length_cons, List.length_nil, List.replicate, Nat.reduceAdd, Nat.reduceSub, Nat.zero_add, reduceIte, Bool.false_eq_true, Bool.true_eq_false, Bool.false_bne, Bool.true_bne, Bool.not_true, Bool.not_false, Bool.not_not, List.reverse_cons, List.reverse_nil, Option.map_some, Option.map_none, up_same, uTuple, uList, uSet, atI_zero, atI_one, ixN_20, ixN_zero, List.set_cons_zero, uPow, h1, decide_false]
      refine fin.of ?_
      simpa [isW, h1] using q
  | _ =>
    simp only [trSs, trS, trE, trT, trX, pl, trA, trO, trC, trI, uBin_s, uUn_s, uVar_s, uC_s, getS, setS, uOp, uAdd, uSub, uMul, uDiv, uMod, uPow, uNeg, uCmp, uEqF, uLt, uLe, uGt, uGe, uIsF, isNonU, uTru, Blt.fn, uLen, uAbs, uMax2, uMin2, uInt, uIx, startU, gam_fn, gam_gl, tab_xcs, tab_sub, UD_nx, UD_rt, UD_bk, UD_ct, UD_ex, spAt, glAt, gls, seqOf, List.map_cons, List.map_nil, List.cons_append, List.nil_append, List.length_cons, List.length_nil, List.replicate, Nat.reduceAdd, Nat.reduceSub, Nat.zero_add, reduceIte, Bool.false_eq_true, Bool.true_eq_false, Bool.false_bne, Bool.true_bne, Bool.not_true, Bool.not_false, Bool.not_not, List.reverse_cons, List.reverse_nil, Option.map_some, Option.map_none, up_same, uTuple, uList, uSet, atI_zero, atI_one, ixN_20, ixN_zero, List.set_cons_zero, uPow, isI]
    exact fin.of q
/-! ### is_sound -/
def sp_is_sound : USp := fun us G Q _ => ∃ u, us = [u] ∧ okS G u ∧ Q (.bl (isS u)) G
def cl_is_sound : List (Str × USp) := [("is_worth", sp_is_worth)]
theorem l_is_sound {G : UH} {t : U} (D : UE) : ∀ (ws : List U) (o : Option U), (∀ x ∈ ws, tyS G x) → (ws.all isW = false → D.rt (.bl false) G) → (ws.all isW = true → ∀ o, D.nx [some t, o] G) → forU [] (trG (.nm 1)) (trSs (TB cl_is_sound) (GM cl_is_sound) l1_is_sound) D ws [some t, o] G
  | [], o, _, _, h => ⟨trivial, h rfl o⟩
  | w :: ws, o, ht, hf, hn => by
    refine ⟨trivial, ?_⟩
    generalize hT : forU _ _ _ D ws = T
    simp only [trSs, trS, trE, trT, trX, pl, trA, trO, trC, trI, uBin_s, uUn_s, uVar_s, uC_s, getS, setS, uOp, uAdd, uSub, uMul, uDiv, uMod, uPow, uNeg, uCmp, uEqF, uLt, uLe, uGt, uGe, uIsF, isNonU, uTru, Blt.fn, uLen, uAbs, uMax2, uMin2, uInt, uIx, startU, gam_fn, gam_gl, tab_xcs, tab_sub, UD_nx, UD_rt, UD_bk, UD_ct, UD_ex, spAt, glAt, gls, seqOf, List.map_cons, List.map_nil, List.cons_append, List.nil_append, List.length_cons, List.length_nil, List.replicate, Nat.reduceAdd, Nat.reduceSub, Nat.zero_add, reduceIte, Bool.false_eq_true, Bool.true_eq_false, Bool.false_bne, Bool.true_bne, Bool.not_true, Bool.not_false, Bool.not_not, List.reverse_cons, List.reverse_nil, Option.map_some, Option.map_none, up_same, uTuple, uList, uSet, atI_zero, atI_one, ixN_20, ixN_zero, List.set_cons_zero, uPow, trG, l1_is_sound, cl_is_sound]
    refine ⟨w, rfl, ht w List.mem_cons_self, ?_⟩
    cases e : isW w with
    | false =>
      simp only [trSs, trS, trE, trT, trX, pl, trA, trO, trC, trI, uBin_s, uUn_s, uVar_s, uC_s, getS, setS, uOp, uAdd, uSub, uMul, uDiv, uMod, uPow, uNeg, uCmp, uEqF, uLt, uLe, uGt, uGe, uIsF, isNonU, uTru, Blt.fn, uLen, uAbs, uMax2, uMin2, uInt, uIx, startU, gam_fn, gam_gl, tab_xcs, tab_sub, UD_nx, UD_rt, UD_bk, UD_ct, UD_ex, spAt, glAt, gls, seqOf, List.map_cons, List.map_nil, List.cons_append, List.nil_append, List.length_cons, List.length_nil, List.replicate, Nat.reduceAdd, Nat.reduceSub, Nat.zero_add, reduceIte, Bool.false_eq_true, Bool.true_eq_false, Bool.false_bne, Bool.true_bne, Bool.not_true, Bool.not_false, Bool.not_not, List.reverse_cons, List.reverse_nil, Option.map_some, Option.map_none, up_same, uTuple, uList, uSet, atI_zero, atI_one, ixN_20, ixN_zero, List.set_cons_zero, uPow]
      exact hf (by simp [e])
    | true =>
      simp only [trSs, trS, trE, trT, trX, pl, trA, trO, trC, trI, uBin_s, uUn_s, uVar_s, uC_s, getS, setS, uOp, uAdd, uSub, uMul, uDiv, uMod, uPow, uNeg, uCmp, uEqF, uLt, uLe, uGt, uGe, uIsF, isNonU, uTru, Blt.fn, uLen, uAbs, uMax2, uMin2, uInt, uIx, startU, gam_fn, gam_gl, tab_xcs, tab_sub, UD_nx, UD_rt, UD_bk, UD_ct, UD_ex, spAt, glAt, gls, seqOf, List.map_cons, List.map_nil, List.cons_append, List.nil_append, List.length_cons, List.length_nil, List.replicate, Nat.reduceAdd, Nat.reduceSub, Nat.zero_add, reduceIte, Bool.false_eq_true, Bool.true_eq_false, Bool.false_bne, Bool.true_bne, Bool.not_true, Bool.not_false, Bool.not_not, List.reverse_cons, List.reverse_nil, Option.map_some, Option.map_none, up_same, uTuple, uList, uSet, atI_zero, atI_one, ixN_20, ixN_zero, List.set_cons_zero, uPow]
      subst hT
      exact ⟨G, .refl G, l_is_sound D ws _ (fun x hx => ht x (List.mem_cons_of_mem _ hx)) (fun h => hf (by simp [e, h])) (fun h => hn (by simp [e, h]))⟩
theorem w_is_sound (us : List U) (G : UH) (Q : UK) (E : UXn → UH → Prop) (h : sp_is_sound us G Q E) : trSs (TB cl_is_sound) (GM cl_is_sound) b_is_sound (UD Q E) (startU n_is_sound us) G := by
  obtain ⟨u, rfl, ht, q⟩ := h
  simp only [trSs, trS, trE, trT, trX, pl, trA, trO, trC, trI, uBin_s, uUn_s, uVar_s, uC_s, getS, setS, uOp, uAdd, uSub, uMul, uDiv, uMod, uPow, uNeg, uCmp, uEqF, uLt, uLe, uGt, uGe, uIsF, isNonU, uTru, Blt.fn, uLen, uAbs, uMax2, uMin2, uInt, uIx, startU, gam_fn, gam_gl, tab_xcs, tab_sub, UD_nx, UD_rt, UD_bk, UD_ct, UD_ex, spAt, glAt, gls, seqOf, List.map_cons, List.map_nil, List.cons_append, List.nil_append, List.length_cons, List.length_nil, List.replicate, Nat.reduceAdd, Nat.reduceSub, Nat.zero_add, reduceIte, Bool.false_eq_true, Bool.true_eq_false, Bool.false_bne, Bool.true_bne, Bool.not_true, Bool.not_false, Bool.not_not, List.reverse_cons, List.reverse_nil, Option.map_some, Option.map_none, up_same, uTuple, uList, uSet, atI_zero, atI_one, ixN_20, ixN_zero, List.set_cons_zero, uPow, b_is_sound, n_is_sound]
  refine isi_tuple ht.1 ?_
  simp only [trSs, trS, trE, trT, trX, pl, trA, trO, trC, trI, uBin_s, uUn_s, uVar_s, uC_s, getS, setS, uOp, uAdd, uSub, uMul, uDiv, uMod, uPow, uNeg, uCmp, uEqF, uLt, uLe, uGt, uGe, uIsF, isNonU, uTru, Blt.fn, uLen, uAbs, uMax2, uMin2, uInt, uIx, startU, gam_fn, gam_gl, tab_xcs, tab_sub, UD_nx, UD_rt, UD_bk, UD_ct, UD_ex, spAt, glAt, gls, seqOf, List.map_cons, List.map_nil, List.cons_append, List.nil_append, List.length_cons, List.length_nil, List.replicate, Nat.reduceAdd, Nat.reduceSub, Nat.zero_add, reduceIte, Bool.false_eq_true, Bool.true_eq_false, Bool.false_bne, Bool.true_bne, Bool.not_true, Bool.not_false, Bool.not_not, List.reverse_cons, List.reverse_nil, Option.map_some, Option.map_none, up_same, uTuple, uList, uSet, atI_zero, atI_one, ixN_20, ixN_zero, List.set_cons_zero, uPow]
  cases u with
  | tup ws =>
    simp only [trSs, trS, trE, trT, trX, pl, trA, trO, trC, trI, uBin_s, uUn_s, uVar_s, uC_s, getS, setS, uOp, uAdd, uSub, uMul, uDiv, uMod, uPow, uNeg, uCmp, uEqF, uLt, uLe, uGt, uGe, uIsF, isNonU, uTru, Blt.fn, uLen, uAbs, uMax2, uMin2, uInt, uIx, startU, gam_fn, gam_gl, tab_xcs, tab_sub, UD_nx, UD_rt, UD_bk, UD_ct, UD_ex, spAt, glAt, gls, seqOf, List.map_cons, List.map_nil, List.cons_append, List.nil_append, List.length_cons, List.length_nil, List.replicate, Nat.reduceAdd, Nat.reduceSub, Nat.zero_add, reduceIte, Bool.false_eq_true, Bool.true_eq_false, Bool.false_bne, Bool.true_bne, Bool.not_true, Bool.not_false, Bool.not_not, List.reverse_cons, List.reverse_nil, Option.map_some, Option.map_none, up_same, uTuple, uList, uSet, atI_zero, atI_one, ixN_20, ixN_zero, List.set_cons_zero, uPow, kT, t2_is_sound]
    refine l_is_sound _ ws none (ht.2 ws rfl) (fun h => ?_) (fun h o => ?_)
    · refine fin.of ?_
      rw [show isS (.tup ws) = false from h] at q
      exact q
    · simp only [trSs, trS, trE, trT, trX, pl, trA, trO, trC, trI, uBin_s, uUn_s, uVar_s, uC_s, getS, setS, uOp, uAdd, uSub, uMul, uDiv, uMod, uPow, uNeg, uCmp, uEqF, uLt, uLe, uGt, uGe, uIsF, isNonU, uTru, Blt.fn, uLen, uAbs, uMax2, uMin2, uInt, uIx, startU, gam_fn, gam_gl, tab_xcs, tab_sub, UD_nx, UD_rt, UD_bk, UD_ct, UD_ex, spAt, glAt, gls, seqOf, List.map_cons, List.map_nil, List.cons_append, List.nil_append, List.length_cons, List.length_nil, List.replicate, Nat.reduceAdd, Nat.reduceSub, Nat.zero_add, reduceIte, Bool.false_eq_true, Bool.true_eq_false, Bool.false_bne, Bool.true_bne, Bool.not_true, Bool.not_false, Bool.not_not, List.reverse_cons, List.reverse_nil, Option.map_some, Option.map_none, up_same, uTuple, uList, uSet, atI_zero, atI_one, ixN_20, ixN_zero, List.set_cons_zero, uPow, t1_is_sound]
      refine fin.of ?_
      rw [show isS (.tup ws) = true from h] at q
      exact q
  | _ =>
    simp only [trSs, trS, trE, trT, trX, pl, trA, trO, trC, trI, uBin_s, uUn_s, uVar_s, uC_s, getS, setS, uOp, uAdd, uSub, uMul, uDiv, uMod, uPow, uNeg, uCmp, uEqF, uLt, uLe, uGt, uGe, uIsF, isNonU, uTru, Blt.fn, uLen, uAbs, uMax2, uMin2, uInt, uIx, startU, gam_fn, gam_gl, tab_xcs, tab_sub, UD_nx, UD_rt, UD_bk, UD_ct, UD_ex, spAt, glAt, gls, seqOf, List.map_cons, List.map_nil, List.cons_append, List.nil_append, List.length_cons, List.length_nil, List.replicate, Nat.reduceAdd, Nat.reduceSub, Nat.zero_add, reduceIte, Bool.false_eq_true, Bool.true_eq_false, Bool.false_bne, Bool.true_bne, Bool.not_true, Bool.not_false, Bool.not_not, List.reverse_cons, List.reverse_nil, Option.map_some, Option.map_none, up_same, uTuple, uList, uSet, atI_zero, atI_one, ixN_20, ixN_zero, List.set_cons_zero, uPow, kT]
    exact fin.of q
end K71
set_option Elab.async false
set_option linter.all false
set_option autoImplicit false
set_option maxRecDepth 100000
set_option maxHeartbeats 4000000
namespace K71
open PySem PySem.Spec L2 UL
/-! ### is_mode -/
def sp_is_mode : USp := fun us G Q _ => us = [.str "near"] ∧ Q (.bl true) G
def cl_is_mode : List (Str × USp) := []
theorem w_is_mode (us : List U) (G : UH) (Q : UK) (E : UXn → UH → Prop) (h : sp_is_mode us G Q E) : trSs (TB cl_is_mode) (GM cl_is_mode) b_is_mode (UD Q E) (startU n_is_mode us) G := by
  obtain ⟨rfl, q⟩ := h
  simp only [trSs, trS, trE, trT, trX, pl, trA, trO, trC, trI, uBin_s, uUn_s, uVar_s, uC_s, getS, setS, uOp, uAdd, uSub, uMul, uDiv, uMod, uPow, uNeg, uCmp, uEqF, uLt, uLe, uGt, uGe, uIsF, isNonU, uTru, Blt.fn, uLen, uAbs, uMax2, uMin2, uInt, uIx, startU, gam_fn, gam_gl, tab_xcs, tab_sub, UD_nx, UD_rt, UD_bk, UD_ct, UD_ex, spAt, glAt, gls, seqOf, List.map_cons, List.map_nil, List.cons_append, List.nil_append, List.length_cons, List.length_nil, List.replicate, Nat.reduceAdd, Nat.reduceSub, Nat.zero_add, reduceIte, Bool.false_eq_true, Bool.true_eq_false, Bool.false_bne, Bool.true_bne, Bool.not_true, Bool.not_false, Bool.not_not, List.reverse_cons, List.reverse_nil, Option.map_some, Option.map_none, up_same, uTuple, uList, uSet, atI_zero, atI_one, ixN_20, ixN_zero, List.set_cons_zero, uPow, b_is_mode, n_is_mode]
  refine isi_str rfl ?_
  simp only [trSs, trS, trE, trT, trX, pl, trA, trO, trC, trI, uBin_s, uUn_s, uVar_s, uC_s, getS, setS, uOp, uAdd, uSub, uMul, uDiv, uMod, uPow, uNeg, uCmp, uEqF, uLt, uLe, uGt, uGe, uIsF, isNonU, uTru, Blt.fn, uLen, uAbs, uMax2, uMin2, uInt, uIx, startU, gam_fn, gam_gl, tab_xcs, tab_sub, UD_nx, UD_rt, UD_bk, UD_ct, UD_ex, spAt, glAt, gls, seqOf, List.map_cons, List.map_nil, List.cons_append, List.nil_append, List.length_cons, List.length_nil, List.replicate, Nat.reduceAdd, Nat.reduceSub, Nat.zero_add, reduceIte, Bool.false_eq_true, Bool.true_eq_false, Bool.false_bne, Bool.true_bne, Bool.not_true, Bool.not_false, Bool.not_not, List.reverse_cons, List.reverse_nil, Option.map_some, Option.map_none, up_same, uTuple, uList, uSet, atI_zero, atI_one, ixN_20, ixN_zero, List.set_cons_zero, uPow, kS, uInF]
  exact ⟨by decide, rfl, rfl, fin.of (by have e : inU (.str "near") [.str "down", .str "near", .str "zero"] = true := by decide +kernel
                                         rw [e]; exact q)⟩
/-! ### _look_spread -/
def lookW (s m : U) : Option Str := if isS s = true then (if okM m = true then none else some "many") else some "sound"
def sp__look_spread : USp := fun us G Q E => ∃ s m, us = [s, m] ∧ okS G s ∧ tyS G m ∧ (match lookW s m with
  | some w => E (xnu w) G
  | none => Q .non G)
def cl__look_spread : List (Str × USp) := [("is_sound", sp_is_sound), ("is_integer", sp_is_integer)]
theorem okM_I' {m : U} (h : isI m = false) : okM m = false := by cases m <;> first | rfl | cases h
theorem w__look_spread (us : List U) (G : UH) (Q : UK) (E : UXn → UH → Prop) (h : sp__look_spread us G Q E) : trSs (TB cl__look_spread) (GM cl__look_spread) b__look_spread (UD Q E) (startU n__look_spread us) G := by
  obtain ⟨s, m, rfl, hs, hm, q⟩ := h
  simp only [trSs, trS, trE, trT, trX, pl, trA, trO, trC, trI, uBin_s, uUn_s, uVar_s, uC_s, getS, setS, uOp, uAdd, uSub, uMul, uDiv, uMod, uPow, uNeg, uCmp, uEqF, uLt, uLe, uGt, uGe, uIsF, isNonU, uTru, Blt.fn, uLen, uAbs, uMax2, uMin2, uInt, uIx, startU, gam_fn, gam_gl, tab_xcs, tab_sub, UD_nx, UD_rt, UD_bk, UD_ct, UD_ex, spAt, glAt, gls, seqOf, List.map_cons, List.map_nil, List.cons_append, List.nil_append, List.length_cons, List.length_nil, List.replicate, Nat.reduceAdd, Nat.reduceSub, Nat.zero_add, reduceIte, Bool.false_eq_true, Bool.true_eq_false, Bool.false_bne, Bool.true_bne, Bool.not_true, Bool.not_false, Bool.not_not, List.reverse_cons, List.reverse_nil, Option.map_some, Option.map_none, up_same, uTuple, uList, uSet, atI_zero, atI_one, ixN_20, ixN_zero, List.set_cons_zero, uPow, b__look_spread, n__look_spread, cl__look_spread]
  refine ⟨s, rfl, hs, ?_⟩
  unfold lookW at q
  cases e : isS s with
  | false =>
    rw [e] at q
    simp only [trSs, trS, trE, trT, trX, pl, trA, trO, trC, trI, uBin_s, uUn_s, uVar_s, uC_s, getS, setS, uOp, uAdd, uSub, uMul, uDiv, uMod, uPow, uNeg, uCmp, uEqF, uLt, uLe, uGt, uGe, uIsF, isNonU, uTru, Blt.fn, uLen, uAbs, uMax2, uMin2, uInt, uIx, startU, gam_fn, gam_gl, tab_xcs, tab_sub, UD_nx, UD_rt, UD_bk, UD_ct, UD_ex, spAt, glAt, gls, seqOf, List.map_cons, List.map_nil, List.cons_append, List.nil_append, List.length_cons, List.length_nil, List.replicate, Nat.reduceAdd, Nat.reduceSub, Nat.zero_add, reduceIte, Bool.false_eq_true, Bool.true_eq_false, Bool.false_bne, Bool.true_bne, Bool.not_true, Bool.not_false, Bool.not_not, List.reverse_cons, List.reverse_nil, Option.map_some, Option.map_none, up_same, uTuple, uList, uSet, atI_zero, atI_one, ixN_20, ixN_zero, List.set_cons_zero, uPow]
    exact ⟨rfl, fin.of q⟩
  | true =>
    rw [e] at q
    simp only [trSs, trS, trE, trT, trX, pl, trA, trO, trC, trI, uBin_s, uUn_s, uVar_s, uC_s, getS, setS, uOp, uAdd, uSub, uMul, uDiv, uMod, uPow, uNeg, uCmp, uEqF, uLt, uLe, uGt, uGe, uIsF, isNonU, uTru, Blt.fn, uLen, uAbs, uMax2, uMin2, uInt, uIx, startU, gam_fn, gam_gl, tab_xcs, tab_sub, UD_nx, UD_rt, UD_bk, UD_ct, UD_ex, spAt, glAt, gls, seqOf, List.map_cons, List.map_nil, List.cons_append, List.nil_append, List.length_cons, List.length_nil, List.replicate, Nat.reduceAdd, Nat.reduceSub, Nat.zero_add, reduceIte, Bool.false_eq_true, Bool.true_eq_false, Bool.false_bne, Bool.true_bne, Bool.not_true, Bool.not_false, Bool.not_not, List.reverse_cons, List.reverse_nil, Option.map_some, Option.map_none, up_same, uTuple, uList, uSet, atI_zero, atI_one, ixN_20, ixN_zero, List.set_cons_zero, uPow, t1__look_spread]
    refine ⟨m, rfl, hm, ?_⟩
    cases m with
    | int i =>
      simp only [trSs, trS, trE, trT, trX, pl, trA, trO, trC, trI, uBin_s, uUn_s, uVar_s, uC_s, getS, setS, uOp, uAdd, uSub, uMul, uDiv, uMod, uPow, uNeg, uCmp, uEqF, uLt, uLe, uGt, uGe, uIsF, isNonU, uTru, Blt.fn, uLen, uAbs, uMax2, uMin2, uInt, uIx, startU, gam_fn, gam_gl, tab_xcs, tab_sub, UD_nx, UD_rt, UD_bk, UD_ct, UD_ex, spAt, glAt, gls, seqOf, List.map_cons, List.map_nil, List.cons_append, List.nil_append, List.length_cons, List.length_nil, List.replicate, Nat.reduceAdd, Nat.reduceSub, Nat.zero_add, reduceIte, Bool.false_eq_true, Bool.true_eq_false, Bool.false_bne, Bool.true_bne, Bool.not_true, Bool.not_false, Bool.not_not, List.reverse_cons, List.reverse_nil, Option.map_some, Option.map_none, up_same, uTuple, uList, uSet, atI_zero, atI_one, ixN_20, ixN_zero, List.set_cons_zero, uPow, isI]
      by_cases h1 : i < 1
      · simp only [trSs, trS, trE, trT, trX, pl, trA, trO, trC, trI, uBin_s, uUn_s, uVar_s, uC_s, getS, setS, uOp, uAdd, uSub, uMul, uDiv, uMod, uPow, uNeg, uCmp, uEqF, uLt, uLe, uGt, uGe, uIsF, isNonU, uTru, Blt.fn, uLen, uAbs, uMax2, uMin2, uInt, uIx, startU, gam_fn, gam_gl, tab_xcs, tab_sub, UD_nx, UD_rt, UD_bk, UD_ct, UD_ex, spAt, glAt, gls, seqOf, List.map_cons, List.map_nil, List.cons_append, List.nil_append, List.length_cons, List.length_nil, List.replicate, Nat.reduceAdd, Nat.reduceSub, Nat.zero_add, reduceIte, Bool.false_eq_true, Bool.true_eq_false, Bool.false_bne, Bool.true_bne, Bool.not_true, Bool.not_false, Bool.not_not, List.reverse_cons, List.reverse_nil, Option.map_some, Option.map_none, up_same, uTuple, uList, uSet, atI_zero, atI_one, ixN_20, ixN_zero, List.set_cons_zero, uPow, h1, decide_true]
        refine ⟨rfl, fin.of ?_⟩
        simpa [okM, xnu, show ¬ 1 ≤ i by omega] using q
      · simp only [trSs, trS, trE, trT, trX, pl, trA, trO, trC, trI, uBin_s, uUn_s, uVar_s, uC_s, getS, setS, uOp, uAdd, uSub, uMul, uDiv, uMod, uPow, uNeg, uCmp, uEqF, uLt, uLe, uGt, uGe, uIsF, isNonU, uTru, Blt.fn, uLen, uAbs, uMax2, uMin2, uInt, uIx, startU, gam_fn, gam_gl, tab_xcs, tab_sub, UD_nx, UD_rt, UD_bk, UD_ct, UD_ex, spAt, glAt, gls, seqOf, List.map_cons, List.map_nil, List.cons_append, List.nil_append, List.length_cons, List.length_nil, List.replicate, Nat.reduceAdd, Nat.reduceSub, Nat.zero_add, reduceIte, Bool.false_eq_true, Bool.true_eq_false, Bool.false_bne, Bool.true_bne, Bool.not_true, Bool.not_false, Bool.not_not, List.reverse_cons, List.reverse_nil, Option.map_some, Option.map_none, up_same, uTuple, uList, uSet, atI_zero, atI_one, ixN_20, ixN_zero, List.set_cons_zero, uPow, h1, decide_false]
        by_cases h2 : 64 < i
        · simp only [trSs, trS, trE, trT, trX, pl, trA, trO, trC, trI, uBin_s, uUn_s, uVar_s, uC_s, getS, setS, uOp, uAdd, uSub, uMul, uDiv, uMod, uPow, uNeg, uCmp, uEqF, uLt, uLe, uGt, uGe, uIsF, isNonU, uTru, Blt.fn, uLen, uAbs, uMax2, uMin2, uInt, uIx, startU, gam_fn, gam_gl, tab_xcs, tab_sub, UD_nx, UD_rt, UD_bk, UD_ct, UD_ex, spAt, glAt, gls, seqOf, List.map_cons, List.map_nil, List.cons_append, List.nil_append, List.length_cons, List.length_nil, List.replicate, Nat.reduceAdd, Nat.reduceSub, Nat.zero_add, reduceIte, Bool.false_eq_true, Bool.true_eq_false, Bool.false_bne, Bool.true_bne, Bool.not_true, Bool.not_false, Bool.not_not, List.reverse_cons, List.reverse_nil, Option.map_some, Option.map_none, up_same, uTuple, uList, uSet, atI_zero, atI_one, ixN_20, ixN_zero, List.set_cons_zero, uPow, h2, decide_true]
          refine ⟨rfl, fin.of ?_⟩
          simpa [okM, xnu, show ¬ i ≤ 64 by omega] using q
        · simp only [trSs, trS, trE, trT, trX, pl, trA, trO, trC, trI, uBin_s, uUn_s, uVar_s, uC_s, getS, setS, uOp, uAdd, uSub, uMul, uDiv, uMod, uPow, uNeg, uCmp, uEqF, uLt, uLe, uGt, uGe, uIsF, isNonU, uTru, Blt.fn, uLen, uAbs, uMax2, uMin2, uInt, uIx, startU, gam_fn, gam_gl, tab_xcs, tab_sub, UD_nx, UD_rt, UD_bk, UD_ct, UD_ex, spAt, glAt, gls, seqOf, List.map_cons, List.map_nil, List.cons_append, List.nil_append, List.length_cons, List.length_nil, List.replicate, Nat.reduceAdd, Nat.reduceSub, Nat.zero_add, reduceIte, Bool.false_eq_true, Bool.true_eq_false, Bool.false_bne, Bool.true_bne, Bool.not_true, Bool.not_false, Bool.not_not, List.reverse_cons, List.reverse_nil, Option.map_some, Option.map_none, up_same, uTuple, uList, uSet, atI_zero, atI_one, ixN_20, ixN_zero, List.set_cons_zero, uPow, h2, decide_false]
          refine fin.of ?_
          simpa [okM, show 1 ≤ i by omega, show i ≤ 64 by omega] using q
    | _ =>
      simp only [trSs, trS, trE, trT, trX, pl, trA, trO, trC, trI, uBin_s, uUn_s, uVar_s, uC_s, getS, setS, uOp, uAdd, uSub, uMul, uDiv, uMod, uPow, uNeg, uCmp, uEqF, uLt, uLe, uGt, uGe, uIsF, isNonU, uTru, Blt.fn, uLen, uAbs, uMax2, uMin2, uInt, uIx, startU, gam_fn, gam_gl, tab_xcs, tab_sub, UD_nx, UD_rt, UD_bk, UD_ct, UD_ex, spAt, glAt, gls, seqOf, List.map_cons, List.map_nil, List.cons_append, List.nil_append, List.length_cons, List.length_nil, List.replicate, Nat.reduceAdd, Nat.reduceSub, Nat.zero_add, reduceIte, Bool.false_eq_true, Bool.true_eq_false, Bool.false_bne, Bool.true_bne, Bool.not_true, Bool.not_false, Bool.not_not, List.reverse_cons, List.reverse_nil, Option.map_some, Option.map_none, up_same, uTuple, uList, uSet, atI_zero, atI_one, ixN_20, ixN_zero, List.set_cons_zero, uPow, isI]
      exact ⟨rfl, fin.of q⟩
/-! ### spread, kept_each -/
def spreadL (ws : List U) (m : Int) : List U := ws.flatMap fun w => w :: List.replicate (m - 1).toNat (.int 0)
def sp_spread : USp := fun us G Q E => ∃ s m, us = [s, m] ∧ okS G s ∧ tyS G m ∧ (tupL s).length ≤ 100000 ∧ (match lookW s m with
  | some w => E (xnu w) G
  | none => Q (.tup (spreadL (tupL s) (intV m))) G)
def cl_spread : List (Str × USp) := [("_look_spread", sp__look_spread)]
theorem lookW_none {s m : U} (h : lookW s m = none) : ∃ ws i, s = .tup ws ∧ m = .int i ∧ ws.all isW = true ∧ 1 ≤ i ∧ i ≤ 64 := by
  unfold lookW at h
  cases e : isS s with
  | false => rw [e] at h; cases h
  | true =>
    cases e2 : okM m with
    | false => rw [e, e2] at h; cases h
    | true =>
      cases s with
      | tup ws =>
        cases m with
        | int i =>
          simp only [okM, Bool.and_eq_true, decide_eq_true_eq] at e2
          exact ⟨ws, i, rfl, rfl, e, e2.1, e2.2⟩
        | _ => cases e2
      | _ => cases e
theorem rep_flat (n : Nat) (u : U) : (List.replicate n [u]).flatten = List.replicate n u := by
  induction n with
  | zero => rfl
  | succ n ih => simp [List.replicate_succ, ih]
theorem spread_len (ws : List U) (m : Int) (h : 1 ≤ m) : (spreadL ws m).length = ws.length * m.toNat := by
  unfold spreadL
  induction ws with
  | nil => simp
  | cons w ws ih =>
    rw [List.flatMap_cons, List.length_append, ih, List.length_cons, List.length_replicate, List.length_cons, Nat.add_mul]
    omega
theorem w_spread (us : List U) (G : UH) (Q : UK) (E : UXn → UH → Prop) (h : sp_spread us G Q E) : trSs (TB cl_spread) (GM cl_spread) b_spread (UD Q E) (startU n_spread us) G := by
  obtain ⟨s, m, rfl, hs, hm, hl, q⟩ := h
  simp only [trSs, trS, trE, trT, trX, pl, trA, trO, trC, trI, uBin_s, uUn_s, uVar_s, uC_s, getS, setS, uOp, uAdd, uSub, uMul, uDiv, uMod, uPow, uNeg, uCmp, uEqF, uLt, uLe, uGt, uGe, uIsF, isNonU, uTru, Blt.fn, uLen, uAbs, uMax2, uMin2, uInt, uIx, startU, gam_fn, gam_gl, tab_xcs, tab_sub, UD_nx, UD_rt, UD_bk, UD_ct, UD_ex, spAt, glAt, gls, seqOf, List.map_cons, List.map_nil, List.cons_append, List.nil_append, List.length_cons, List.length_nil, List.replicate, Nat.reduceAdd, Nat.reduceSub, Nat.zero_add, reduceIte, Bool.false_eq_true, Bool.true_eq_false, Bool.false_bne, Bool.true_bne, Bool.not_true, Bool.not_false, Bool.not_not, List.reverse_cons, List.reverse_nil, Option.map_some, Option.map_none, up_same, uTuple, uList, uSet, atI_zero, atI_one, ixN_20, ixN_zero, List.set_cons_zero, uPow, b_spread, n_spread, cl_spread]
  refine ⟨s, m, rfl, hs, hm, ?_⟩
  cases e : lookW s m with
  | some w =>
    rw [e] at q
    exact fin.of q
  | none =>
    rw [e] at q
    obtain ⟨ws, i, rfl, rfl, hw, h1, h2⟩ := lookW_none e
    have lg := line_ge
    simp only [trSs, trS, trE, trT, trX, pl, trA, trO, trC, trI, uBin_s, uUn_s, uVar_s, uC_s, getS, setS, uOp, uAdd, uSub, uMul, uDiv, uMod, uPow, uNeg, uCmp, uEqF, uLt, uLe, uGt, uGe, uIsF, isNonU, uTru, Blt.fn, uLen, uAbs, uMax2, uMin2, uInt, uIx, startU, gam_fn, gam_gl, tab_xcs, tab_sub, UD_nx, UD_rt, UD_bk, UD_ct, UD_ex, spAt, glAt, gls, seqOf, List.map_cons, List.map_nil, List.cons_append, List.nil_append, List.length_cons, List.length_nil, List.replicate, Nat.reduceAdd, Nat.reduceSub, Nat.zero_add, reduceIte, Bool.false_eq_true, Bool.true_eq_false, Bool.false_bne, Bool.true_bne, Bool.not_true, Bool.not_false, Bool.not_not, List.reverse_cons, List.reverse_nil, Option.map_some, Option.map_none, up_same, uTuple, uList, uSet, atI_zero, atI_one, ixN_20, ixN_zero, List.set_cons_zero, uPow, trG, t1_spread, t2_spread]
    refine ⟨by omega, by simp, by omega, by omega, by omega, ?_⟩
    rw [rep_flat]
    intro p hp
    refine lc2U_pure (f := fun w => w :: List.replicate (i - 1).toNat (.int 0)) (fun _ => depsNil) ws [] ?_ ?_ ?_
    · have := spread_len ws i h1
      have h3 : ws.length * i.toNat ≤ 100000 * 64 := Nat.mul_le_mul hl (by omega)
      show 0 + (spreadL ws i).length ≤ sizeLine
      omega
    · intro y hy acc K K0 hl2 hK
      simp only [trSs, trS, trE, trT, trX, pl, trA, trO, trC, trI, uBin_s, uUn_s, uVar_s, uC_s, getS, setS, uOp, uAdd, uSub, uMul, uDiv, uMod, uPow, uNeg, uCmp, uEqF, uLt, uLe, uGt, uGe, uIsF, isNonU, uTru, Blt.fn, uLen, uAbs, uMax2, uMin2, uInt, uIx, startU, gam_fn, gam_gl, tab_xcs, tab_sub, UD_nx, UD_rt, UD_bk, UD_ct, UD_ex, spAt, glAt, gls, seqOf, List.map_cons, List.map_nil, List.cons_append, List.nil_append, List.length_cons, List.length_nil, List.replicate, Nat.reduceAdd, Nat.reduceSub, Nat.zero_add, reduceIte, Bool.false_eq_true, Bool.true_eq_false, Bool.false_bne, Bool.true_bne, Bool.not_true, Bool.not_false, Bool.not_not, List.reverse_cons, List.reverse_nil, Option.map_some, Option.map_none, up_same, uTuple, uList, uSet, atI_zero, atI_one, ixN_20, ixN_zero, List.set_cons_zero, uPow, slotsG, slotsGs, wipeU]
      refine ⟨by omega, by simp only [List.length_cons, List.length_replicate] at hl2 ⊢; omega, ?_⟩
      refine lcK_pure (c := fun _ => true) (f := id) (fun _ => depsNil) _ acc (by simpa using hl2) ?_ ?_
      · intro z hz acc K1 K0 k1 _
        simp only [trSs, trS, trE, trT, trX, pl, trA, trO, trC, trI, uBin_s, uUn_s, uVar_s, uC_s, getS, setS, uOp, uAdd, uSub, uMul, uDiv, uMod, uPow, uNeg, uCmp, uEqF, uLt, uLe, uGt, uGe, uIsF, isNonU, uTru, Blt.fn, uLen, uAbs, uMax2, uMin2, uInt, uIx, startU, gam_fn, gam_gl, tab_xcs, tab_sub, UD_nx, UD_rt, UD_bk, UD_ct, UD_ex, spAt, glAt, gls, seqOf, List.map_cons, List.map_nil, List.cons_append, List.nil_append, List.length_cons, List.length_nil, List.replicate, Nat.reduceAdd, Nat.reduceSub, Nat.zero_add, reduceIte, Bool.false_eq_true, Bool.true_eq_false, Bool.false_bne, Bool.true_bne, Bool.not_true, Bool.not_false, Bool.not_not, List.reverse_cons, List.reverse_nil, Option.map_some, Option.map_none, up_same, uTuple, uList, uSet, atI_zero, atI_one, ixN_20, ixN_zero, List.set_cons_zero, uPow, slotsG, slotsGs, wipeU]
        exact k1 rfl
      · simpa using hK
    · simp only [trSs, trS, trE, trT, trX, pl, trA, trO, trC, trI, uBin_s, uUn_s, uVar_s, uC_s, getS, setS, uOp, uAdd, uSub, uMul, uDiv, uMod, uPow, uNeg, uCmp, uEqF, uLt, uLe, uGt, uGe, uIsF, isNonU, uTru, Blt.fn, uLen, uAbs, uMax2, uMin2, uInt, uIx, startU, gam_fn, gam_gl, tab_xcs, tab_sub, UD_nx, UD_rt, UD_bk, UD_ct, UD_ex, spAt, glAt, gls, seqOf, List.map_cons, List.map_nil, List.cons_append, List.nil_append, List.length_cons, List.length_nil, List.replicate, Nat.reduceAdd, Nat.reduceSub, Nat.zero_add, reduceIte, Bool.false_eq_true, Bool.true_eq_false, Bool.false_bne, Bool.true_bne, Bool.not_true, Bool.not_false, Bool.not_not, List.reverse_cons, List.reverse_nil, Option.map_some, Option.map_none, up_same, uTuple, uList, uSet, atI_zero, atI_one, ixN_20, ixN_zero, List.set_cons_zero, uPow]
      exact ⟨G, .new hp, q⟩
def sp_kept_each : USp := fun us G Q E => ∃ s m, us = [s, m] ∧ okS G s ∧ tyS G m ∧ (match lookW s m with
  | some w => E (xnu w) G
  | none => Q (.tup (stp (tupL s) (intV m))) G)
def cl_kept_each : List (Str × USp) := [("_look_spread", sp__look_spread)]
theorem w_kept_each (us : List U) (G : UH) (Q : UK) (E : UXn → UH → Prop) (h : sp_kept_each us G Q E) : trSs (TB cl_kept_each) (GM cl_kept_each) b_kept_each (UD Q E) (startU n_kept_each us) G := by
  obtain ⟨s, m, rfl, hs, hm, q⟩ := h
  simp only [trSs, trS, trE, trT, trX, pl, trA, trO, trC, trI, uBin_s, uUn_s, uVar_s, uC_s, getS, setS, uOp, uAdd, uSub, uMul, uDiv, uMod, uPow, uNeg, uCmp, uEqF, uLt, uLe, uGt, uGe, uIsF, isNonU, uTru, Blt.fn, uLen, uAbs, uMax2, uMin2, uInt, uIx, startU, gam_fn, gam_gl, tab_xcs, tab_sub, UD_nx, UD_rt, UD_bk, UD_ct, UD_ex, spAt, glAt, gls, seqOf, List.map_cons, List.map_nil, List.cons_append, List.nil_append, List.length_cons, List.length_nil, List.replicate, Nat.reduceAdd, Nat.reduceSub, Nat.zero_add, reduceIte, Bool.false_eq_true, Bool.true_eq_false, Bool.false_bne, Bool.true_bne, Bool.not_true, Bool.not_false, Bool.not_not, List.reverse_cons, List.reverse_nil, Option.map_some, Option.map_none, up_same, uTuple, uList, uSet, atI_zero, atI_one, ixN_20, ixN_zero, List.set_cons_zero, uPow, b_kept_each, n_kept_each, cl_kept_each]
  refine ⟨s, m, rfl, hs, hm, ?_⟩
  cases e : lookW s m with
  | some w =>
    rw [e] at q
    exact fin.of q
  | none =>
    rw [e] at q
    obtain ⟨ws, i, rfl, rfl, hw, h1, h2⟩ := lookW_none e
    simp only [trSs, trS, trE, trT, trX, pl, trA, trO, trC, trI, uBin_s, uUn_s, uVar_s, uC_s, getS, setS, uOp, uAdd, uSub, uMul, uDiv, uMod, uPow, uNeg, uCmp, uEqF, uLt, uLe, uGt, uGe, uIsF, isNonU, uTru, Blt.fn, uLen, uAbs, uMax2, uMin2, uInt, uIx, startU, gam_fn, gam_gl, tab_xcs, tab_sub, UD_nx, UD_rt, UD_bk, UD_ct, UD_ex, spAt, glAt, gls, seqOf, List.map_cons, List.map_nil, List.cons_append, List.nil_append, List.length_cons, List.length_nil, List.replicate, Nat.reduceAdd, Nat.reduceSub, Nat.zero_add, reduceIte, Bool.false_eq_true, Bool.true_eq_false, Bool.false_bne, Bool.true_bne, Bool.not_true, Bool.not_false, Bool.not_not, List.reverse_cons, List.reverse_nil, Option.map_some, Option.map_none, up_same, uTuple, uList, uSet, atI_zero, atI_one, ixN_20, ixN_zero, List.set_cons_zero, uPow, uStp, t1_kept_each]
    exact ⟨by omega, fin.of q⟩
/-! ### clip, turned -/
def clipI (v : Int) : Int := max (-1048575) (min 1048575 v)
def sp_clip : USp := fun us G Q _ => ∃ v, us = [.int v] ∧ Q (.int (clipI v)) G
def cl_clip : List (Str × USp) := [("is_integer", sp_is_integer)]
theorem w_clip (us : List U) (G : UH) (Q : UK) (E : UXn → UH → Prop) (h : sp_clip us G Q E) : trSs (TB cl_clip) (GM cl_clip) b_clip (UD Q E) (startU n_clip us) G := by
  obtain ⟨v, rfl, q⟩ := h
  simp only [trSs, trS, trE, trT, trX, pl, trA, trO, trC, trI, uBin_s, uUn_s, uVar_s, uC_s, getS, setS, uOp, uAdd, uSub, uMul, uDiv, uMod, uPow, uNeg, uCmp, uEqF, uLt, uLe, uGt, uGe, uIsF, isNonU, uTru, Blt.fn, uLen, uAbs, uMax2, uMin2, uInt, uIx, startU, gam_fn, gam_gl, tab_xcs, tab_sub, UD_nx, UD_rt, UD_bk, UD_ct, UD_ex, spAt, glAt, gls, seqOf, List.map_cons, List.map_nil, List.cons_append, List.nil_append, List.length_cons, List.length_nil, List.replicate, Nat.reduceAdd, Nat.reduceSub, Nat.zero_add, reduceIte, Bool.false_eq_true, Bool.true_eq_false, Bool.false_bne, Bool.true_bne, Bool.not_true, Bool.not_false, Bool.not_not, List.reverse_cons, List.reverse_nil, Option.map_some, Option.map_none, up_same, uTuple, uList, uSet, atI_zero, atI_one, ixN_20, ixN_zero, List.set_cons_zero, uPow, b_clip, n_clip, cl_clip]
  refine ⟨_, rfl, rfl, ?_⟩
  simp only [trSs, trS, trE, trT, trX, pl, trA, trO, trC, trI, uBin_s, uUn_s, uVar_s, uC_s, getS, setS, uOp, uAdd, uSub, uMul, uDiv, uMod, uPow, uNeg, uCmp, uEqF, uLt, uLe, uGt, uGe, uIsF, isNonU, uTru, Blt.fn, uLen, uAbs, uMax2, uMin2, uInt, uIx, startU, gam_fn, gam_gl, tab_xcs, tab_sub, UD_nx, UD_rt, UD_bk, UD_ct, UD_ex, spAt, glAt, gls, seqOf, List.map_cons, List.map_nil, List.cons_append, List.nil_append, List.length_cons, List.length_nil, List.replicate, Nat.reduceAdd, Nat.reduceSub, Nat.zero_add, reduceIte, Bool.false_eq_true, Bool.true_eq_false, Bool.false_bne, Bool.true_bne, Bool.not_true, Bool.not_false, Bool.not_not, List.reverse_cons, List.reverse_nil, Option.map_some, Option.map_none, up_same, uTuple, uList, uSet, atI_zero, atI_one, ixN_20, ixN_zero, List.set_cons_zero, uPow, isI, t1_clip]
  exact fin.of q
def sp_turned : USp := fun us G Q _ => ∃ v, us = [.int v, .int 4096, .str "near"] ∧ Q (.int ((2 * v + 4096) / 8192)) G
def cl_turned : List (Str × USp) := [("is_integer", sp_is_integer), ("is_mode", sp_is_mode)]
theorem w_turned (us : List U) (G : UH) (Q : UK) (E : UXn → UH → Prop) (h : sp_turned us G Q E) : trSs (TB cl_turned) (GM cl_turned) b_turned (UD Q E) (startU n_turned us) G := by
  obtain ⟨v, rfl, q⟩ := h
  simp only [trSs, trS, trE, trT, trX, pl, trA, trO, trC, trI, uBin_s, uUn_s, uVar_s, uC_s, getS, setS, uOp, uAdd, uSub, uMul, uDiv, uMod, uPow, uNeg, uCmp, uEqF, uLt, uLe, uGt, uGe, uIsF, isNonU, uTru, Blt.fn, uLen, uAbs, uMax2, uMin2, uInt, uIx, startU, gam_fn, gam_gl, tab_xcs, tab_sub, UD_nx, UD_rt, UD_bk, UD_ct, UD_ex, spAt, glAt, gls, seqOf, List.map_cons, List.map_nil, List.cons_append, List.nil_append, List.length_cons, List.length_nil, List.replicate, Nat.reduceAdd, Nat.reduceSub, Nat.zero_add, reduceIte, Bool.false_eq_true, Bool.true_eq_false, Bool.false_bne, Bool.true_bne, Bool.not_true, Bool.not_false, Bool.not_not, List.reverse_cons, List.reverse_nil, Option.map_some, Option.map_none, up_same, uTuple, uList, uSet, atI_zero, atI_one, ixN_20, ixN_zero, List.set_cons_zero, uPow, b_turned, n_turned, cl_turned]
  refine ⟨_, rfl, rfl, ?_⟩
  simp only [trSs, trS, trE, trT, trX, pl, trA, trO, trC, trI, uBin_s, uUn_s, uVar_s, uC_s, getS, setS, uOp, uAdd, uSub, uMul, uDiv, uMod, uPow, uNeg, uCmp, uEqF, uLt, uLe, uGt, uGe, uIsF, isNonU, uTru, Blt.fn, uLen, uAbs, uMax2, uMin2, uInt, uIx, startU, gam_fn, gam_gl, tab_xcs, tab_sub, UD_nx, UD_rt, UD_bk, UD_ct, UD_ex, spAt, glAt, gls, seqOf, List.map_cons, List.map_nil, List.cons_append, List.nil_append, List.length_cons, List.length_nil, List.replicate, Nat.reduceAdd, Nat.reduceSub, Nat.zero_add, reduceIte, Bool.false_eq_true, Bool.true_eq_false, Bool.false_bne, Bool.true_bne, Bool.not_true, Bool.not_false, Bool.not_not, List.reverse_cons, List.reverse_nil, Option.map_some, Option.map_none, up_same, uTuple, uList, uSet, atI_zero, atI_one, ixN_20, ixN_zero, List.set_cons_zero, uPow, isI, t4_turned, t5_turned, cl_turned]
  refine ⟨_, rfl, rfl, ?_⟩
  simp only [trSs, trS, trE, trT, trX, pl, trA, trO, trC, trI, uBin_s, uUn_s, uVar_s, uC_s, getS, setS, uOp, uAdd, uSub, uMul, uDiv, uMod, uPow, uNeg, uCmp, uEqF, uLt, uLe, uGt, uGe, uIsF, isNonU, uTru, Blt.fn, uLen, uAbs, uMax2, uMin2, uInt, uIx, startU, gam_fn, gam_gl, tab_xcs, tab_sub, UD_nx, UD_rt, UD_bk, UD_ct, UD_ex, spAt, glAt, gls, seqOf, List.map_cons, List.map_nil, List.cons_append, List.nil_append, List.length_cons, List.length_nil, List.replicate, Nat.reduceAdd, Nat.reduceSub, Nat.zero_add, reduceIte, Bool.false_eq_true, Bool.true_eq_false, Bool.false_bne, Bool.true_bne, Bool.not_true, Bool.not_false, Bool.not_not, List.reverse_cons, List.reverse_nil, Option.map_some, Option.map_none, up_same, uTuple, uList, uSet, atI_zero, atI_one, ixN_20, ixN_zero, List.set_cons_zero, uPow, isI, show decide ((4096 : Int) < 1) = false from rfl, t3_turned]
  refine ⟨rfl, ?_⟩
  simp only [trSs, trS, trE, trT, trX, pl, trA, trO, trC, trI, uBin_s, uUn_s, uVar_s, uC_s, getS, setS, uOp, uAdd, uSub, uMul, uDiv, uMod, uPow, uNeg, uCmp, uEqF, uLt, uLe, uGt, uGe, uIsF, isNonU, uTru, Blt.fn, uLen, uAbs, uMax2, uMin2, uInt, uIx, startU, gam_fn, gam_gl, tab_xcs, tab_sub, UD_nx, UD_rt, UD_bk, UD_ct, UD_ex, spAt, glAt, gls, seqOf, List.map_cons, List.map_nil, List.cons_append, List.nil_append, List.length_cons, List.length_nil, List.replicate, Nat.reduceAdd, Nat.reduceSub, Nat.zero_add, reduceIte, Bool.false_eq_true, Bool.true_eq_false, Bool.false_bne, Bool.true_bne, Bool.not_true, Bool.not_false, Bool.not_not, List.reverse_cons, List.reverse_nil, Option.map_some, Option.map_none, up_same, uTuple, uList, uSet, atI_zero, atI_one, ixN_20, ixN_zero, List.set_cons_zero, uPow, decide_true, t2_turned]
  exact ⟨mulL (by decide) (by decide), mulL (by decide) (by decide), divS (by decide) (by decide), fin.of q⟩
/-! ### _resample_rates -/
def okWt : U → Bool
  | .int i => decide (-65536 ≤ i) && decide (i ≤ 65536)
  | _ => false
def okWs : U → Bool
  | .tup ws => decide (1 ≤ ws.length) && decide (ws.length ≤ 64) && ws.all okWt
  | _ => false
def ratesW (up down w : U) : Option Str := if okM up = true then (if okM down = true then (if okWs w = true then none else some "weights") else some "down") else some "up"
def sp__resample_rates : USp := fun us G Q E => ∃ u d w, us = [u, d, w] ∧ tyS G u ∧ tyS G d ∧ okS G w ∧ (match ratesW u d w with
  | some w => E (xnu w) G
  | none => Q .non G)
def cl__resample_rates : List (Str × USp) := [("is_integer", sp_is_integer)]
theorem w__resample_rates (us : List U) (G : UH) (Q : UK) (E : UXn → UH → Prop) (h : sp__resample_rates us G Q E) : trSs (TB cl__resample_rates) (GM cl__resample_rates) b__resample_rates (UD Q E) (startU n__resample_rates us) G := by
  obtain ⟨u, d, w, rfl, hu, hd, hw, q⟩ := h
  unfold ratesW at q
  simp only [trSs, trS, trE, trT, trX, pl, trA, trO, trC, trI, uBin_s, uUn_s, uVar_s, uC_s, getS, setS, uOp, uAdd, uSub, uMul, uDiv, uMod, uPow, uNeg, uCmp, uEqF, uLt, uLe, uGt, uGe, uIsF, isNonU, uTru, Blt.fn, uLen, uAbs, uMax2, uMin2, uInt, uIx, startU, gam_fn, gam_gl, tab_xcs, tab_sub, UD_nx, UD_rt, UD_bk, UD_ct, UD_ex, spAt, glAt, gls, seqOf, List.map_cons, List.map_nil, List.cons_append, List.nil_append, List.length_cons, List.length_nil, List.replicate, Nat.reduceAdd, Nat.reduceSub, Nat.zero_add, reduceIte, Bool.false_eq_true, Bool.true_eq_false, Bool.false_bne, Bool.true_bne, Bool.not_true, Bool.not_false, Bool.not_not, List.reverse_cons, List.reverse_nil, Option.map_some, Option.map_none, up_same, uTuple, uList, uSet, atI_zero, atI_one, ixN_20, ixN_zero, List.set_cons_zero, uPow, b__resample_rates, n__resample_rates, cl__resample_rates]
  refine ⟨u, rfl, hu, ?_⟩
  have st1 : okM u = true → trSs (TB cl__resample_rates) (GM cl__resample_rates) t3__resample_rates (UD Q E) [some u, some d, some w, none] G := by
    intro eu
    rw [if_pos eu] at q
    simp only [trSs, trS, trE, trT, trX, pl, trA, trO, trC, trI, uBin_s, uUn_s, uVar_s, uC_s, getS, setS, uOp, uAdd, uSub, uMul, uDiv, uMod, uPow, uNeg, uCmp, uEqF, uLt, uLe, uGt, uGe, uIsF, isNonU, uTru, Blt.fn, uLen, uAbs, uMax2, uMin2, uInt, uIx, startU, gam_fn, gam_gl, tab_xcs, tab_sub, UD_nx, UD_rt, UD_bk, UD_ct, UD_ex, spAt, glAt, gls, seqOf, List.map_cons, List.map_nil, List.cons_append, List.nil_append, List.length_cons, List.length_nil, List.replicate, Nat.reduceAdd, Nat.reduceSub, Nat.zero_add, reduceIte, Bool.false_eq_true, Bool.true_eq_false, Bool.false_bne, Bool.true_bne, Bool.not_true, Bool.not_false, Bool.not_not, List.reverse_cons, List.reverse_nil, Option.map_some, Option.map_none, up_same, uTuple, uList, uSet, atI_zero, atI_one, ixN_20, ixN_zero, List.set_cons_zero, uPow, t3__resample_rates, cl__resample_rates]
    refine ⟨d, rfl, hd, ?_⟩
    have st2 : okM d = true → trSs (TB cl__resample_rates) (GM cl__resample_rates) t2__resample_rates (UD Q E) [some u, some d, some w, none] G := by
      intro ed
      rw [if_pos ed] at q
      simp only [trSs, trS, trE, trT, trX, pl, trA, trO, trC, trI, uBin_s, uUn_s, uVar_s, uC_s, getS, setS, uOp, uAdd, uSub, uMul, uDiv, uMod, uPow, uNeg, uCmp, uEqF, uLt, uLe, uGt, uGe, uIsF, isNonU, uTru, Blt.fn, uLen, uAbs, uMax2, uMin2, uInt, uIx, startU, gam_fn, gam_gl, tab_xcs, tab_sub, UD_nx, UD_rt, UD_bk, UD_ct, UD_ex, spAt, glAt, gls, seqOf, List.map_cons, List.map_nil, List.cons_append, List.nil_append, List.length_cons, List.length_nil, List.replicate, Nat.reduceAdd, Nat.reduceSub, Nat.zero_add, reduceIte, Bool.false_eq_true, Bool.true_eq_false, Bool.false_bne, Bool.true_bne, Bool.not_true, Bool.not_false, Bool.not_not, List.reverse_cons, List.reverse_nil, Option.map_some, Option.map_none, up_same, uTuple, uList, uSet, atI_zero, atI_one, ixN_20, ixN_zero, List.set_cons_zero, uPow, t2__resample_rates]
      refine isi_tuple hw.1 ?_
      cases w with
      | tup ws =>
        simp only [trSs, trS, trE, trT, trX, pl, trA, trO, trC, trI, uBin_s, uUn_s, uVar_s, uC_s, getS, setS, uOp, uAdd, uSub, uMul, uDiv, uMod, uPow, uNeg, uCmp, uEqF, uLt, uLe, uGt, uGe, uIsF, isNonU, uTru, Blt.fn, uLen, uAbs, uMax2, uMin2, uInt, uIx, startU, gam_fn, gam_gl, tab_xcs, tab_sub, UD_nx, UD_rt, UD_bk, UD_ct, UD_ex, spAt, glAt, gls, seqOf, List.map_cons, List.map_nil, List.cons_append, List.nil_append, List.length_cons, List.length_nil, List.replicate, Nat.reduceAdd, Nat.reduceSub, Nat.zero_add, reduceIte, Bool.false_eq_true, Bool.true_eq_false, Bool.false_bne, Bool.true_bne, Bool.not_true, Bool.not_false, Bool.not_not, List.reverse_cons, List.reverse_nil, Option.map_some, Option.map_none, up_same, uTuple, uList, uSet, atI_zero, atI_one, ixN_20, ixN_zero, List.set_cons_zero, uPow, kT]
        by_cases l1 : (ws.length : Int) < 1
        · simp only [trSs, trS, trE, trT, trX, pl, trA, trO, trC, trI, uBin_s, uUn_s, uVar_s, uC_s, getS, setS, uOp, uAdd, uSub, uMul, uDiv, uMod, uPow, uNeg, uCmp, uEqF, uLt, uLe, uGt, uGe, uIsF, isNonU, uTru, Blt.fn, uLen, uAbs, uMax2, uMin2, uInt, uIx, startU, gam_fn, gam_gl, tab_xcs, tab_sub, UD_nx, UD_rt, UD_bk, UD_ct, UD_ex, spAt, glAt, gls, seqOf, List.map_cons, List.map_nil, List.cons_append, List.nil_append, List.length_cons, List.length_nil, List.replicate, Nat.reduceAdd, Nat.reduceSub, Nat.zero_add, reduceIte, Bool.false_eq_true, Bool.true_eq_false, Bool.false_bne, Bool.true_bne, Bool.not_true, Bool.not_false, Bool.not_not, List.reverse_cons, List.reverse_nil, Option.map_some, Option.map_none, up_same, uTuple, uList, uSet, atI_zero, atI_one, ixN_20, ixN_zero, List.set_cons_zero, uPow, l1, decide_true]
          refine ⟨rfl, fin.of ?_⟩
          simpa [okWs, xnu, show ¬ 1 ≤ ws.length by omega] using q
        · simp only [trSs, trS, trE, trT, trX, pl, trA, trO, trC, trI, uBin_s, uUn_s, uVar_s, uC_s, getS, setS, uOp, uAdd, uSub, uMul, uDiv, uMod, uPow, uNeg, uCmp, uEqF, uLt, uLe, uGt, uGe, uIsF, isNonU, uTru, Blt.fn, uLen, uAbs, uMax2, uMin2, uInt, uIx, startU, gam_fn, gam_gl, tab_xcs, tab_sub, UD_nx, UD_rt, UD_bk, UD_ct, UD_ex, spAt, glAt, gls, seqOf, List.map_cons, List.map_nil, List.cons_append, List.nil_append, List.length_cons, List.length_nil, List.replicate, Nat.reduceAdd, Nat.reduceSub, Nat.zero_add, reduceIte, Bool.false_eq_true, Bool.true_eq_false, Bool.false_bne, Bool.true_bne, Bool.not_true, Bool.not_false, Bool.not_not, List.reverse_cons, List.reverse_nil, Option.map_some, Option.map_none, up_same, uTuple, uList, uSet, atI_zero, atI_one, ixN_20, ixN_zero, List.set_cons_zero, uPow, l1, decide_false]
          by_cases l2 : 64 < (ws.length : Int)
          · simp only [trSs, trS, trE, trT, trX, pl, trA, trO, trC, trI, uBin_s, uUn_s, uVar_s, uC_s, getS, setS, uOp, uAdd, uSub, uMul, uDiv, uMod, uPow, uNeg, uCmp, uEqF, uLt, uLe, uGt, uGe, uIsF, isNonU, uTru, Blt.fn, uLen, uAbs, uMax2, uMin2, uInt, uIx, startU, gam_fn, gam_gl, tab_xcs, tab_sub, UD_nx, UD_rt, UD_bk, UD_ct, UD_ex, spAt, glAt, gls, seqOf, List.map_cons, List.map_nil, List.cons_append, List.nil_append, List.length_cons, List.length_nil, List.replicate, Nat.reduceAdd, Nat.reduceSub, Nat.zero_add, reduceIte, Bool.false_eq_true, Bool.true_eq_false, Bool.false_bne, Bool.true_bne, Bool.not_true, Bool.not_false, Bool.not_not, List.reverse_cons, List.reverse_nil, Option.map_some, Option.map_none, up_same, uTuple, uList, uSet, atI_zero, atI_one, ixN_20, ixN_zero, List.set_cons_zero, uPow, l2, decide_true]
            refine ⟨rfl, fin.of ?_⟩
            simpa [okWs, xnu, show ¬ ws.length ≤ 64 by omega] using q
          · simp only [trSs, trS, trE, trT, trX, pl, trA, trO, trC, trI, uBin_s, uUn_s, uVar_s, uC_s, getS, setS, uOp, uAdd, uSub, uMul, uDiv, uMod, uPow, uNeg, uCmp, uEqF, uLt, uLe, uGt, uGe, uIsF, isNonU, uTru, Blt.fn, uLen, uAbs, uMax2, uMin2, uInt, uIx, startU, gam_fn, gam_gl, tab_xcs, tab_sub, UD_nx, UD_rt, UD_bk, UD_ct, UD_ex, spAt, glAt, gls, seqOf, List.map_cons, List.map_nil, List.cons_append, List.nil_append, List.length_cons, List.length_nil, List.replicate, Nat.reduceAdd, Nat.reduceSub, Nat.zero_add, reduceIte, Bool.false_eq_true, Bool.true_eq_false, Bool.false_bne, Bool.true_bne, Bool.not_true, Bool.not_false, Bool.not_not, List.reverse_cons, List.reverse_nil, Option.map_some, Option.map_none, up_same, uTuple, uList, uSet, atI_zero, atI_one, ixN_20, ixN_zero, List.set_cons_zero, uPow, l2, decide_false, t1__resample_rates, cl__resample_rates]
            intro p hp
            have lg := line_ge
            refine lcU_map (f := fun x => .bl (okWt x)) (fun _ => depsNil) ws [] (by simp; omega) ?_ ?_
            · intro y hy acc K1 K0 k1
              simp only [trSs, trS, trE, trT, trX, pl, trA, trO, trC, trI, uBin_s, uUn_s, uVar_s, uC_s, getS, setS, uOp, uAdd, uSub, uMul, uDiv, uMod, uPow, uNeg, uCmp, uEqF, uLt, uLe, uGt, uGe, uIsF, isNonU, uTru, Blt.fn, uLen, uAbs, uMax2, uMin2, uInt, uIx, startU, gam_fn, gam_gl, tab_xcs, tab_sub, UD_nx, UD_rt, UD_bk, UD_ct, UD_ex, spAt, glAt, gls, seqOf, List.map_cons, List.map_nil, List.cons_append, List.nil_append, List.length_cons, List.length_nil, List.replicate, Nat.reduceAdd, Nat.reduceSub, Nat.zero_add, reduceIte, Bool.false_eq_true, Bool.true_eq_false, Bool.false_bne, Bool.true_bne, Bool.not_true, Bool.not_false, Bool.not_not, List.reverse_cons, List.reverse_nil, Option.map_some, Option.map_none, up_same, uTuple, uList, uSet, atI_zero, atI_one, ixN_20, ixN_zero, List.set_cons_zero, uPow, slotsG, slotsGs, wipeU, trG]
              refine ⟨y, rfl, tyS_le (.new hp) (hw.2 ws rfl y hy), ?_⟩
              cases y with
              | int i =>
                simp only [trSs, trS, trE, trT, trX, pl, trA, trO, trC, trI, uBin_s, uUn_s, uVar_s, uC_s, getS, setS, uOp, uAdd, uSub, uMul, uDiv, uMod, uPow, uNeg, uCmp, uEqF, uLt, uLe, uGt, uGe, uIsF, isNonU, uTru, Blt.fn, uLen, uAbs, uMax2, uMin2, uInt, uIx, startU, gam_fn, gam_gl, tab_xcs, tab_sub, UD_nx, UD_rt, UD_bk, UD_ct, UD_ex, spAt, glAt, gls, seqOf, List.map_cons, List.map_nil, List.cons_append, List.nil_append, List.length_cons, List.length_nil, List.replicate, Nat.reduceAdd, Nat.reduceSub, Nat.zero_add, reduceIte, Bool.false_eq_true, Bool.true_eq_false, Bool.false_bne, Bool.true_bne, Bool.not_true, Bool.not_false, Bool.not_not, List.reverse_cons, List.reverse_nil, Option.map_some, Option.map_none, up_same, uTuple, uList, uSet, atI_zero, atI_one, ixN_20, ixN_zero, List.set_cons_zero, uPow, isI]
                by_cases h1 : (-65536 : Int) ≤ i
                · simp only [trSs, trS, trE, trT, trX, pl, trA, trO, trC, trI, uBin_s, uUn_s, uVar_s, uC_s, getS, setS, uOp, uAdd, uSub, uMul, uDiv, uMod, uPow, uNeg, uCmp, uEqF, uLt, uLe, uGt, uGe, uIsF, isNonU, uTru, Blt.fn, uLen, uAbs, uMax2, uMin2, uInt, uIx, startU, gam_fn, gam_gl, tab_xcs, tab_sub, UD_nx, UD_rt, UD_bk, UD_ct, UD_ex, spAt, glAt, gls, seqOf, List.map_cons, List.map_nil, List.cons_append, List.nil_append, List.length_cons, List.length_nil, List.replicate, Nat.reduceAdd, Nat.reduceSub, Nat.zero_add, reduceIte, Bool.false_eq_true, Bool.true_eq_false, Bool.false_bne, Bool.true_bne, Bool.not_true, Bool.not_false, Bool.not_not, List.reverse_cons, List.reverse_nil, Option.map_some, Option.map_none, up_same, uTuple, uList, uSet, atI_zero, atI_one, ixN_20, ixN_zero, List.set_cons_zero, uPow, h1, decide_true]
                  have k2 := k1
                  simpa [okWt, h1] using k2
                · simp only [trSs, trS, trE, trT, trX, pl, trA, trO, trC, trI, uBin_s, uUn_s, uVar_s, uC_s, getS, setS, uOp, uAdd, uSub, uMul, uDiv, uMod, uPow, uNeg, uCmp, uEqF, uLt, uLe, uGt, uGe, uIsF, isNonU, uTru, Blt.fn, uLen, uAbs, uMax2, uMin2, uInt, uIx, startU, gam_fn, gam_gl, tab_xcs, tab_sub, UD_nx, UD_rt, UD_bk, UD_ct, UD_ex, spAt, glAt, gls, seqOf, List.map_cons, List.map_nil, List.cons_append, List.nil_append, List.length_cons, List.length_nil, List.replicate, Nat.reduceAdd, Nat.reduceSub, Nat.zero_add, reduceIte, Bool.false_eq_true, Bool.true_eq_false, Bool.false_bne, Bool.true_bne, Bool.not_true, Bool.not_false, Bool.not_not, List.reverse_cons, List.reverse_nil, Option.map_some, Option.map_none, up_same, uTuple, uList, uSet, atI_zero, atI_one, ixN_20, ixN_zero, List.set_cons_zero, uPow, h1, decide_false]
                  have k2 := k1
                  simpa [okWt, h1] using k2
              | _ =>
                simp only [trSs, trS, trE, trT, trX, pl, trA, trO, trC, trI, uBin_s, uUn_s, uVar_s, uC_s, getS, setS, uOp, uAdd, uSub, uMul, uDiv, uMod, uPow, uNeg, uCmp, uEqF, uLt, uLe, uGt, uGe, uIsF, isNonU, uTru, Blt.fn, uLen, uAbs, uMax2, uMin2, uInt, uIx, startU, gam_fn, gam_gl, tab_xcs, tab_sub, UD_nx, UD_rt, UD_bk, UD_ct, UD_ex, spAt, glAt, gls, seqOf, List.map_cons, List.map_nil, List.cons_append, List.nil_append, List.length_cons, List.length_nil, List.replicate, Nat.reduceAdd, Nat.reduceSub, Nat.zero_add, reduceIte, Bool.false_eq_true, Bool.true_eq_false, Bool.false_bne, Bool.true_bne, Bool.not_true, Bool.not_false, Bool.not_not, List.reverse_cons, List.reverse_nil, Option.map_some, Option.map_none, up_same, uTuple, uList, uSet, atI_zero, atI_one, ixN_20, ixN_zero, List.set_cons_zero, uPow, isI]
                exact k1
            · simp only [trSs, trS, trE, trT, trX, pl, trA, trO, trC, trI, uBin_s, uUn_s, uVar_s, uC_s, getS, setS, uOp, uAdd, uSub, uMul, uDiv, uMod, uPow, uNeg, uCmp, uEqF, uLt, uLe, uGt, uGe, uIsF, isNonU, uTru, Blt.fn, uLen, uAbs, uMax2, uMin2, uInt, uIx, startU, gam_fn, gam_gl, tab_xcs, tab_sub, UD_nx, UD_rt, UD_bk, UD_ct, UD_ex, spAt, glAt, gls, seqOf, List.map_cons, List.map_nil, List.cons_append, List.nil_append, List.length_cons, List.length_nil, List.replicate, Nat.reduceAdd, Nat.reduceSub, Nat.zero_add, reduceIte, Bool.false_eq_true, Bool.true_eq_false, Bool.false_bne, Bool.true_bne, Bool.not_true, Bool.not_false, Bool.not_not, List.reverse_cons, List.reverse_nil, Option.map_some, Option.map_none, up_same, uTuple, uList, uSet, atI_zero, atI_one, ixN_20, ixN_zero, List.set_cons_zero, uPow, uAll, uBlL]
              have e1 : (ws.map fun x => U.bl (okWt x)) = (ws.map okWt).map U.bl := by simp
              rw [e1, blsOf_map]
              simp only [trSs, trS, trE, trT, trX, pl, trA, trO, trC, trI, uBin_s, uUn_s, uVar_s, uC_s, getS, setS, uOp, uAdd, uSub, uMul, uDiv, uMod, uPow, uNeg, uCmp, uEqF, uLt, uLe, uGt, uGe, uIsF, isNonU, uTru, Blt.fn, uLen, uAbs, uMax2, uMin2, uInt, uIx, startU, gam_fn, gam_gl, tab_xcs, tab_sub, UD_nx, UD_rt, UD_bk, UD_ct, UD_ex, spAt, glAt, gls, seqOf, List.map_cons, List.map_nil, List.cons_append, List.nil_append, List.length_cons, List.length_nil, List.replicate, Nat.reduceAdd, Nat.reduceSub, Nat.zero_add, reduceIte, Bool.false_eq_true, Bool.true_eq_false, Bool.false_bne, Bool.true_bne, Bool.not_true, Bool.not_false, Bool.not_not, List.reverse_cons, List.reverse_nil, Option.map_some, Option.map_none, up_same, uTuple, uList, uSet, atI_zero, atI_one, ixN_20, ixN_zero, List.set_cons_zero, uPow]
              have e2 : (ws.map okWt).all id = ws.all okWt := by rw [List.all_map]; rfl
              rw [e2]
              have hw' : okWs (.tup ws) = ws.all okWt := by simp [okWs, show 1 ≤ ws.length by omega, show ws.length ≤ 64 by omega]
              rw [hw'] at q
              cases e3 : ws.all okWt with
              | true =>
                rw [e3] at q
                simp only [trSs, trS, trE, trT, trX, pl, trA, trO, trC, trI, uBin_s, uUn_s, uVar_s, uC_s, getS, setS, uOp, uAdd, uSub, uMul, uDiv, uMod, uPow, uNeg, uCmp, uEqF, uLt, uLe, uGt, uGe, uIsF, isNonU, uTru, Blt.fn, uLen, uAbs, uMax2, uMin2, uInt, uIx, startU, gam_fn, gam_gl, tab_xcs, tab_sub, UD_nx, UD_rt, UD_bk, UD_ct, UD_ex, spAt, glAt, gls, seqOf, List.map_cons, List.map_nil, List.cons_append, List.nil_append, List.length_cons, List.length_nil, List.replicate, Nat.reduceAdd, Nat.reduceSub, Nat.zero_add, reduceIte, Bool.false_eq_true, Bool.true_eq_false, Bool.false_bne, Bool.true_bne, Bool.not_true, Bool.not_false, Bool.not_not, List.reverse_cons, List.reverse_nil, Option.map_some, Option.map_none, up_same, uTuple, uList, uSet, atI_zero, atI_one, ixN_20, ixN_zero, List.set_cons_zero, uPow]
                exact ⟨G, .new hp, q⟩
              | false =>
                rw [e3] at q
                simp only [trSs, trS, trE, trT, trX, pl, trA, trO, trC, trI, uBin_s, uUn_s, uVar_s, uC_s, getS, setS, uOp, uAdd, uSub, uMul, uDiv, uMod, uPow, uNeg, uCmp, uEqF, uLt, uLe, uGt, uGe, uIsF, isNonU, uTru, Blt.fn, uLen, uAbs, uMax2, uMin2, uInt, uIx, startU, gam_fn, gam_gl, tab_xcs, tab_sub, UD_nx, UD_rt, UD_bk, UD_ct, UD_ex, spAt, glAt, gls, seqOf, List.map_cons, List.map_nil, List.cons_append, List.nil_append, List.length_cons, List.length_nil, List.replicate, Nat.reduceAdd, Nat.reduceSub, Nat.zero_add, reduceIte, Bool.false_eq_true, Bool.true_eq_false, Bool.false_bne, Bool.true_bne, Bool.not_true, Bool.not_false, Bool.not_not, List.reverse_cons, List.reverse_nil, Option.map_some, Option.map_none, up_same, uTuple, uList, uSet, atI_zero, atI_one, ixN_20, ixN_zero, List.set_cons_zero, uPow]
                exact ⟨rfl, G, .new hp, q⟩
      | _ =>
        simp only [trSs, trS, trE, trT, trX, pl, trA, trO, trC, trI, uBin_s, uUn_s, uVar_s, uC_s, getS, setS, uOp, uAdd, uSub, uMul, uDiv, uMod, uPow, uNeg, uCmp, uEqF, uLt, uLe, uGt, uGe, uIsF, isNonU, uTru, Blt.fn, uLen, uAbs, uMax2, uMin2, uInt, uIx, startU, gam_fn, gam_gl, tab_xcs, tab_sub, UD_nx, UD_rt, UD_bk, UD_ct, UD_ex, spAt, glAt, gls, seqOf, List.map_cons, List.map_nil, List.cons_append, List.nil_append, List.length_cons, List.length_nil, List.replicate, Nat.reduceAdd, Nat.reduceSub, Nat.zero_add, reduceIte, Bool.false_eq_true, Bool.true_eq_false, Bool.false_bne, Bool.true_bne, Bool.not_true, Bool.not_false, Bool.not_not, List.reverse_cons, List.reverse_nil, Option.map_some, Option.map_none, up_same, uTuple, uList, uSet, atI_zero, atI_one, ixN_20, ixN_zero, List.set_cons_zero, uPow, kT]
        exact ⟨rfl, fin.of q⟩
    cases d with
    | int i =>
      simp only [trSs, trS, trE, trT, trX, pl, trA, trO, trC, trI, uBin_s, uUn_s, uVar_s, uC_s, getS, setS, uOp, uAdd, uSub, uMul, uDiv, uMod, uPow, uNeg, uCmp, uEqF, uLt, uLe, uGt, uGe, uIsF, isNonU, uTru, Blt.fn, uLen, uAbs, uMax2, uMin2, uInt, uIx, startU, gam_fn, gam_gl, tab_xcs, tab_sub, UD_nx, UD_rt, UD_bk, UD_ct, UD_ex, spAt, glAt, gls, seqOf, List.map_cons, List.map_nil, List.cons_append, List.nil_append, List.length_cons, List.length_nil, List.replicate, Nat.reduceAdd, Nat.reduceSub, Nat.zero_add, reduceIte, Bool.false_eq_true, Bool.true_eq_false, Bool.false_bne, Bool.true_bne, Bool.not_true, Bool.not_false, Bool.not_not, List.reverse_cons, List.reverse_nil, Option.map_some, Option.map_none, up_same, uTuple, uList, uSet, atI_zero, atI_one, ixN_20, ixN_zero, List.set_cons_zero, uPow, isI]
      by_cases h1 : i < 1
      · simp only [trSs, trS, trE, trT, trX, pl, trA, trO, trC, trI, uBin_s, uUn_s, uVar_s, uC_s, getS, setS, uOp, uAdd, uSub, uMul, uDiv, uMod, uPow, uNeg, uCmp, uEqF, uLt, uLe, uGt, uGe, uIsF, isNonU, uTru, Blt.fn, uLen, uAbs, uMax2, uMin2, uInt, uIx, startU, gam_fn, gam_gl, tab_xcs, tab_sub, UD_nx, UD_rt, UD_bk, UD_ct, UD_ex, spAt, glAt, gls, seqOf, List.map_cons, List.map_nil, List.cons_append, List.nil_append, List.length_cons, List.length_nil, List.replicate, Nat.reduceAdd, Nat.reduceSub, Nat.zero_add, reduceIte, Bool.false_eq_true, Bool.true_eq_false, Bool.false_bne, Bool.true_bne, Bool.not_true, Bool.not_false, Bool.not_not, List.reverse_cons, List.reverse_nil, Option.map_some, Option.map_none, up_same, uTuple, uList, uSet, atI_zero, atI_one, ixN_20, ixN_zero, List.set_cons_zero, uPow, h1, decide_true]
        refine ⟨rfl, fin.of ?_⟩
        simpa [okM, xnu, show ¬ 1 ≤ i by omega] using q
      · simp only [trSs, trS, trE, trT, trX, pl, trA, trO, trC, trI, uBin_s, uUn_s, uVar_s, uC_s, getS, setS, uOp, uAdd, uSub, uMul, uDiv, uMod, uPow, uNeg, uCmp, uEqF, uLt, uLe, uGt, uGe, uIsF, isNonU, uTru, Blt.fn, uLen, uAbs, uMax2, uMin2, uInt, uIx, startU, gam_fn, gam_gl, tab_xcs, tab_sub, UD_nx, UD_rt, UD_bk, UD_ct, UD_ex, spAt, glAt, gls, seqOf, List.map_cons, List.map_nil, List.cons_append, List.nil_append, List.length_cons, List.length_nil, List.replicate, Nat.reduceAdd, Nat.reduceSub, Nat.zero_add, reduceIte, Bool.false_eq_true, Bool.true_eq_false, Bool.false_bne, Bool.true_bne, Bool.not_true, Bool.not_false, Bool.not_not, List.reverse_cons, List.reverse_nil, Option.map_some, Option.map_none, up_same, uTuple, uList, uSet, atI_zero, atI_one, ixN_20, ixN_zero, List.set_cons_zero, uPow, h1, decide_false]
        by_cases h2 : 64 < i
        · simp only [trSs, trS, trE, trT, trX, pl, trA, trO, trC, trI, uBin_s, uUn_s, uVar_s, uC_s, getS, setS, uOp, uAdd, uSub, uMul, uDiv, uMod, uPow, uNeg, uCmp, uEqF, uLt, uLe, uGt, uGe, uIsF, isNonU, uTru, Blt.fn, uLen, uAbs, uMax2, uMin2, uInt, uIx, startU, gam_fn, gam_gl, tab_xcs, tab_sub, UD_nx, UD_rt, UD_bk, UD_ct, UD_ex, spAt, glAt, gls, seqOf, List.map_cons, List.map_nil, List.cons_append, List.nil_append, List.length_cons, List.length_nil, List.replicate, Nat.reduceAdd, Nat.reduceSub, Nat.zero_add, reduceIte, Bool.false_eq_true, Bool.true_eq_false, Bool.false_bne, Bool.true_bne, Bool.not_true, Bool.not_false, Bool.not_not, List.reverse_cons, List.reverse_nil, Option.map_some, Option.map_none, up_same, uTuple, uList, uSet, atI_zero, atI_one, ixN_20, ixN_zero, List.set_cons_zero, uPow, h2, decide_true]
          refine ⟨rfl, fin.of ?_⟩
          simpa [okM, xnu, show ¬ i ≤ 64 by omega] using q
        · simp only [trSs, trS, trE, trT, trX, pl, trA, trO, trC, trI, uBin_s, uUn_s, uVar_s, uC_s, getS, setS, uOp, uAdd, uSub, uMul, uDiv, uMod, uPow, uNeg, uCmp, uEqF, uLt, uLe, uGt, uGe, uIsF, isNonU, uTru, Blt.fn, uLen, uAbs, uMax2, uMin2, uInt, uIx, startU, gam_fn, gam_gl, tab_xcs, tab_sub, UD_nx, UD_rt, UD_bk, UD_ct, UD_ex, spAt, glAt, gls, seqOf, List.map_cons, List.map_nil, List.cons_append, List.nil_append, List.length_cons, List.length_nil, List.replicate, Nat.reduceAdd, Nat.reduceSub, Nat.zero_add, reduceIte, Bool.false_eq_true, Bool.true_eq_false, Bool.false_bne, Bool.true_bne, Bool.not_true, Bool.not_false, Bool.not_not, List.reverse_cons, List.reverse_nil, Option.map_some, Option.map_none, up_same, uTuple, uList, uSet, atI_zero, atI_one, ixN_20, ixN_zero, List.set_cons_zero, uPow, h2, decide_false]
          exact st2 (by simp [okM]; omega)
    | _ =>
      simp only [trSs, trS, trE, trT, trX, pl, trA, trO, trC, trI, uBin_s, uUn_s, uVar_s, uC_s, getS, setS, uOp, uAdd, uSub, uMul, uDiv, uMod, uPow, uNeg, uCmp, uEqF, uLt, uLe, uGt, uGe, uIsF, isNonU, uTru, Blt.fn, uLen, uAbs, uMax2, uMin2, uInt, uIx, startU, gam_fn, gam_gl, tab_xcs, tab_sub, UD_nx, UD_rt, UD_bk, UD_ct, UD_ex, spAt, glAt, gls, seqOf, List.map_cons, List.map_nil, List.cons_append, List.nil_append, List.length_cons, List.length_nil, List.replicate, Nat.reduceAdd, Nat.reduceSub, Nat.zero_add, reduceIte, Bool.false_eq_true, Bool.true_eq_false, Bool.false_bne, Bool.true_bne, Bool.not_true, Bool.not_false, Bool.not_not, List.reverse_cons, List.reverse_nil, Option.map_some, Option.map_none, up_same, uTuple, uList, uSet, atI_zero, atI_one, ixN_20, ixN_zero, List.set_cons_zero, uPow, isI]
      exact ⟨rfl, fin.of q⟩
  cases u with
  | int i =>
    simp only [trSs, trS, trE, trT, trX, pl, trA, trO, trC, trI, uBin_s, uUn_s, uVar_s, uC_s, getS, setS, uOp, uAdd, uSub, uMul, uDiv, uMod, uPow, uNeg, uCmp, uEqF, uLt, uLe, uGt, uGe, uIsF, isNonU, uTru, Blt.fn, uLen, uAbs, uMax2, uMin2, uInt, uIx, startU, gam_fn, gam_gl, tab_xcs, tab_sub, UD_nx, UD_rt, UD_bk, UD_ct, UD_ex, spAt, glAt, gls, seqOf, List.map_cons, List.map_nil, List.cons_append, List.nil_append, List.length_cons, List.length_nil, List.replicate, Nat.reduceAdd, Nat.reduceSub, Nat.zero_add, reduceIte, Bool.false_eq_true, Bool.true_eq_false, Bool.false_bne, Bool.true_bne, Bool.not_true, Bool.not_false, Bool.not_not, List.reverse_cons, List.reverse_nil, Option.map_some, Option.map_none, up_same, uTuple, uList, uSet, atI_zero, atI_one, ixN_20, ixN_zero, List.set_cons_zero, uPow, isI]
    by_cases h1 : i < 1
    · simp only [trSs, trS, trE, trT, trX, pl, trA, trO, trC, trI, uBin_s, uUn_s, uVar_s, uC_s, getS, setS, uOp, uAdd, uSub, uMul, uDiv, uMod, uPow, uNeg, uCmp, uEqF, uLt, uLe, uGt, uGe, uIsF, isNonU, uTru, Blt.fn, uLen, uAbs, uMax2, uMin2, uInt, uIx, startU, gam_fn, gam_gl, tab_xcs, tab_sub, UD_nx, UD_rt, UD_bk, UD_ct, UD_ex, spAt, glAt, gls, seqOf, List.map_cons, List.map_nil, List.cons_append, List.nil_append, List.length_cons, List.length_nil, List.replicate, Nat.reduceAdd, Nat.reduceSub, Nat.zero_add, reduceIte, Bool.false_eq_true, Bool.true_eq_false, Bool.false_bne, Bool.true_bne, Bool.not_true, Bool.not_false, Bool.not_not, List.reverse_cons, List.reverse_nil, Option.map_some, Option.map_none, up_same, uTuple, uList, uSet, atI_zero, atI_one, ixN_20, ixN_zero, List.set_cons_zero, uPow, h1, decide_true]
      refine ⟨rfl, fin.of ?_⟩
      simpa [okM, xnu, show ¬ 1 ≤ i by omega] using q
    · simp only [trSs, trS, trE, trT, trX, pl, trA, trO, trC, trI, uBin_s, uUn_s, uVar_s, uC_s, getS, setS, uOp, uAdd, uSub, uMul, uDiv, uMod, uPow, uNeg, uCmp, uEqF, uLt, uLe, uGt, uGe, uIsF, isNonU, uTru, Blt.fn, uLen, uAbs, uMax2, uMin2, uInt, uIx, startU, gam_fn, gam_gl, tab_xcs, tab_sub, UD_nx, UD_rt, UD_bk, UD_ct, UD_ex, spAt, glAt, gls, seqOf, List.map_cons, List.map_nil, List.cons_append, List.nil_append, List.length_cons, List.length_nil, List.replicate, Nat.reduceAdd, Nat.reduceSub, Nat.zero_add, reduceIte, Bool.false_eq_true, Bool.true_eq_false, Bool.false_bne, Bool.true_bne, Bool.not_true, Bool.not_false, Bool.not_not, List.reverse_cons, List.reverse_nil, Option.map_some, Option.map_none, up_same, uTuple, uList, uSet, atI_zero, atI_one, ixN_20, ixN_zero, List.set_cons_zero, uPow, h1, decide_false]
      by_cases h2 : 64 < i
      · simp only [trSs, trS, trE, trT, trX, pl, trA, trO, trC, trI, uBin_s, uUn_s, uVar_s, uC_s, getS, setS, uOp, uAdd, uSub, uMul, uDiv, uMod, uPow, uNeg, uCmp, uEqF, uLt, uLe, uGt, uGe, uIsF, isNonU, uTru, Blt.fn, uLen, uAbs, uMax2, uMin2, uInt, uIx, startU, gam_fn, gam_gl, tab_xcs, tab_sub, UD_nx, UD_rt, UD_bk, UD_ct, UD_ex, spAt, glAt, gls, seqOf, List.map_cons, List.map_nil, List.cons_append, List.nil_append, List.length_cons, List.length_nil, List.replicate, Nat.reduceAdd, Nat.reduceSub, Nat.zero_add, reduceIte, Bool.false_eq_true, Bool.true_eq_false, Bool.false_bne, Bool.true_bne, Bool.not_true, Bool.not_false, Bool.not_not, List.reverse_cons, List.reverse_nil, Option.map_some, Option.map_none, up_same, uTuple, uList, uSet, atI_zero, atI_one, ixN_20, ixN_zero, List.set_cons_zero, uPow, h2, decide_true]
        refine ⟨rfl, fin.of ?_⟩
        simpa [okM, xnu, show ¬ i ≤ 64 by omega] using q
      · simp only [trSs, trS, trE, trT, trX, pl, trA, trO, trC, trI, uBin_s, uUn_s, uVar_s, uC_s, getS, setS, uOp, uAdd, uSub, uMul, uDiv, uMod, uPow, uNeg, uCmp, uEqF, uLt, uLe, uGt, uGe, uIsF, isNonU, uTru, Blt.fn, uLen, uAbs, uMax2, uMin2, uInt, uIx, startU, gam_fn, gam_gl, tab_xcs, tab_sub, UD_nx, UD_rt, UD_bk, UD_ct, UD_ex, spAt, glAt, gls, seqOf, List.map_cons, List.map_nil, List.cons_append, List.nil_append, List.length_cons, List.length_nil, List.replicate, Nat.reduceAdd, Nat.reduceSub, Nat.zero_add, reduceIte, Bool.false_eq_true, Bool.true_eq_false, Bool.false_bne, Bool.true_bne, Bool.not_true, Bool.not_false, Bool.not_not, List.reverse_cons, List.reverse_nil, Option.map_some, Option.map_none, up_same, uTuple, uList, uSet, atI_zero, atI_one, ixN_20, ixN_zero, List.set_cons_zero, uPow, h2, decide_false]
        exact st1 (by simp [okM]; omega)
  | _ =>
    simp only [trSs, trS, trE, trT, trX, pl, trA, trO, trC, trI, uBin_s, uUn_s, uVar_s, uC_s, getS, setS, uOp, uAdd, uSub, uMul, uDiv, uMod, uPow, uNeg, uCmp, uEqF, uLt, uLe, uGt, uGe, uIsF, isNonU, uTru, Blt.fn, uLen, uAbs, uMax2, uMin2, uInt, uIx, startU, gam_fn, gam_gl, tab_xcs, tab_sub, UD_nx, UD_rt, UD_bk, UD_ct, UD_ex, spAt, glAt, gls, seqOf, List.map_cons, List.map_nil, List.cons_append, List.nil_append, List.length_cons, List.length_nil, List.replicate, Nat.reduceAdd, Nat.reduceSub, Nat.zero_add, reduceIte, Bool.false_eq_true, Bool.true_eq_false, Bool.false_bne, Bool.true_bne, Bool.not_true, Bool.not_false, Bool.not_not, List.reverse_cons, List.reverse_nil, Option.map_some, Option.map_none, up_same, uTuple, uList, uSet, atI_zero, atI_one, ixN_20, ixN_zero, List.set_cons_zero, uPow, isI]
    exact ⟨rfl, fin.of q⟩
end K71
set_option Elab.async false
set_option linter.all false
set_option autoImplicit false
set_option maxRecDepth 100000
set_option maxHeartbeats 4000000
namespace K71
open PySem PySem.Spec L2 UL
/-! ### _resample_sum -/
def tapI (ws hs : List Int) (place up j : Int) : Int := hs.getD j.toNat 0 * ws.getD ((place - j) / up).toNat 0
def jsI (hs : List Int) (place up : Int) : List Int := rangeI (place % up) up (rlen (place % up) (min hs.length (place + 1)) up)
def sumI (ws hs : List Int) (place up : Int) : Int := ((jsI hs place up).map (tapI ws hs place up)).sum
def resI (ws hs : List Int) (up place : Int) : Int := clipI ((2 * sumI ws hs place up + 4096) / 8192)
def sp__resample_sum : USp := fun us G Q _ => ∃ (ws hs : List Int) (place up : Int), us = [.tup (ws.map U.int), .int 0, .int place, .int up, .tup (hs.map U.int)] ∧ 0 ≤ place ∧ 1 ≤ up ∧ up ≤ 64 ∧ hs.length ≤ 64 ∧ place < ws.length * up ∧ place < 100000000 ∧ (∀ h ∈ hs, -65536 ≤ h ∧ h ≤ 65536) ∧ Q (.int (resI ws hs up place)) G
def cl__resample_sum : List (Str × USp) := [("clip", sp_clip), ("turned", sp_turned)]
theorem js_bd {hs : List Int} {place up j : Int} (h0 : 0 ≤ place) (h1 : 1 ≤ up) (h : j ∈ jsI hs place up) : 0 ≤ j ∧ j < hs.length ∧ j ≤ place := by
  obtain ⟨i, hi, e⟩ := rangeI_mem h
  have l := rlen_lt (by omega) hi
  have m0 : 0 ≤ place % up := Int.emod_nonneg _ (by omega)
  have m1 : 0 ≤ (i : Int) * up := Int.mul_nonneg (by omega) (by omega)
  omega
theorem getD_mem {l : List Int} {i : Nat} {P : Int → Prop} (h : ∀ x ∈ l, P x) (h0 : P 0) : P (l.getD i 0) := by
  by_cases hi : i < l.length
  · rw [List.getD_eq_getElem?_getD, List.getElem?_eq_getElem hi]
    exact h _ (List.getElem_mem hi)
  · rw [List.getD_eq_getElem?_getD, List.getElem?_eq_none (by omega)]
    exact h0
theorem l__resample_sum {G : UH} {ws hs : List Int} {place up : Int} (h0 : 0 ≤ place) (h1 : 1 ≤ up) (h2 : up ≤ 64) (hp : place < ws.length * up) (hb : ∀ h ∈ hs, -65536 ≤ h ∧ h ≤ 65536) (D : UE) : ∀ (js : List Int) (t : Int) (o : Option U), (∀ j ∈ js, 0 ≤ j ∧ j < hs.length ∧ j ≤ place) →
    (∀ o, D.nx [some (.tup (ws.map U.int)), some (.int 0), some (.int place), some (.int up), some (.tup (hs.map U.int)), some (.int (t + (js.map (tapI ws hs place up)).sum)), o] G) →
    forU [] (trG (.nm 6)) (trSs (TB cl__resample_sum) (GM cl__resample_sum) l1__resample_sum) D (List.map U.int js) [some (.tup (ws.map U.int)), some (.int 0), some (.int place), some (.int up), some (.tup (hs.map U.int)), some (.int t), o] G
  | [], t, o, _, q => ⟨trivial, by simpa using q o⟩
  | j :: js, t, o, hj, q => by
    refine ⟨trivial, ?_⟩
    generalize hT : forU _ _ _ D (List.map U.int js) = T
    obtain ⟨j0, j1, j2⟩ := hj j List.mem_cons_self
    have d0 : 0 ≤ (place - j) / up := Int.ediv_nonneg (by omega) (by omega)
    have d1 : (place - j) / up < ws.length := Int.ediv_lt_of_lt_mul (by omega) (by omega)
    have hw := getD_mem (i := j.toNat) hb (by omega)
    simp only [trSs, trS, trE, trT, trX, pl, trA, trO, trC, trI, uBin_s, uUn_s, uVar_s, uC_s, getS, setS, uOp, uAdd, uSub, uMul, uDiv, uMod, uPow, uNeg, uCmp, uEqF, uLt, uLe, uGt, uGe, uIsF, isNonU, uTru, Blt.fn, uLen, uAbs, uMax2, uMin2, uInt, uIx, startU, gam_fn, gam_gl, tab_xcs, tab_sub, UD_nx, UD_rt, UD_bk, UD_ct, UD_ex, spAt, glAt, gls, seqOf, List.map_cons, List.map_nil, List.cons_append, List.nil_append, List.length_cons, List.length_nil, List.replicate, Nat.reduceAdd, Nat.reduceSub, Nat.zero_add, reduceIte, Bool.false_eq_true, Bool.true_eq_false, Bool.false_bne, Bool.true_bne, Bool.not_true, Bool.not_false, Bool.not_not, List.reverse_cons, List.reverse_nil, Option.map_some, Option.map_none, up_same, uTuple, uList, uSet, atI_zero, atI_one, ixN_20, ixN_zero, List.set_cons_zero, uPow, trG, l1__resample_sum, atI_int j0 j1, Int.sub_zero, atI_int d0 d1, uIp]
    refine ⟨divS (by omega) (by omega), mulL (by omega) (by omega), G, .refl G, ?_⟩
    subst hT
    refine l__resample_sum h0 h1 h2 hp hb D js _ _ (fun j h => hj j (List.mem_cons_of_mem _ h)) fun o => ?_
    have e : t + ((j :: js).map (tapI ws hs place up)).sum = t + hs.getD j.toNat 0 * ws.getD ((place - j) / up).toNat 0 + (js.map (tapI ws hs place up)).sum := by
      rw [List.map_cons, List.sum_cons]
      unfold tapI
      omega
    rw [← e]
    exact q o
theorem w__resample_sum (us : List U) (G : UH) (Q : UK) (E : UXn → UH → Prop) (h : sp__resample_sum us G Q E) : trSs (TB cl__resample_sum) (GM cl__resample_sum) b__resample_sum (UD Q E) (startU n__resample_sum us) G := by
  obtain ⟨ws, hs, place, up, rfl, h0, h1, h2, h3, hp, hp2, hb, q⟩ := h
  simp only [trSs, trS, trE, trT, trX, pl, trA, trO, trC, trI, uBin_s, uUn_s, uVar_s, uC_s, getS, setS, uOp, uAdd, uSub, uMul, uDiv, uMod, uPow, uNeg, uCmp, uEqF, uLt, uLe, uGt, uGe, uIsF, isNonU, uTru, Blt.fn, uLen, uAbs, uMax2, uMin2, uInt, uIx, startU, gam_fn, gam_gl, tab_xcs, tab_sub, UD_nx, UD_rt, UD_bk, UD_ct, UD_ex, spAt, glAt, gls, seqOf, List.map_cons, List.map_nil, List.cons_append, List.nil_append, List.length_cons, List.length_nil, List.replicate, Nat.reduceAdd, Nat.reduceSub, Nat.zero_add, reduceIte, Bool.false_eq_true, Bool.true_eq_false, Bool.false_bne, Bool.true_bne, Bool.not_true, Bool.not_false, Bool.not_not, List.reverse_cons, List.reverse_nil, Option.map_some, Option.map_none, up_same, uTuple, uList, uSet, atI_zero, atI_one, ixN_20, ixN_zero, List.set_cons_zero, uPow, b__resample_sum, n__resample_sum, trG]
  simp only [trSs, trS, trE, trT, trX, pl, trA, trO, trC, trI, uBin_s, uUn_s, uVar_s, uC_s, getS, setS, uOp, uAdd, uSub, uMul, uDiv, uMod, uPow, uNeg, uCmp, uEqF, uLt, uLe, uGt, uGe, uIsF, isNonU, uTru, Blt.fn, uLen, uAbs, uMax2, uMin2, uInt, uIx, startU, gam_fn, gam_gl, tab_xcs, tab_sub, UD_nx, UD_rt, UD_bk, UD_ct, UD_ex, spAt, glAt, gls, seqOf, List.map_cons, List.map_nil, List.cons_append, List.nil_append, List.length_cons, List.length_nil, List.replicate, Nat.reduceAdd, Nat.reduceSub, Nat.zero_add, reduceIte, Bool.false_eq_true, Bool.true_eq_false, Bool.false_bne, Bool.true_bne, Bool.not_true, Bool.not_false, Bool.not_not, List.reverse_cons, List.reverse_nil, Option.map_some, Option.map_none, up_same, uTuple, uList, uSet, atI_zero, atI_one, ixN_20, ixN_zero, List.set_cons_zero, uPow, t2__resample_sum, List.length_map, rangeU_map]
  have m0 : 0 ≤ place % up := Int.emod_nonneg _ (by omega)
  have m1 : place % up < up := Int.emod_lt_of_pos _ (by omega)
  refine ⟨by omega, by unfold small62; omega, by unfold small62; omega, by omega, by omega, ?_⟩
  refine l__resample_sum h0 h1 h2 hp hb _ (jsI hs place up) 0 none (fun j hj => js_bd h0 h1 hj) fun o => ?_
  simp only [trSs, trS, trE, trT, trX, pl, trA, trO, trC, trI, uBin_s, uUn_s, uVar_s, uC_s, getS, setS, uOp, uAdd, uSub, uMul, uDiv, uMod, uPow, uNeg, uCmp, uEqF, uLt, uLe, uGt, uGe, uIsF, isNonU, uTru, Blt.fn, uLen, uAbs, uMax2, uMin2, uInt, uIx, startU, gam_fn, gam_gl, tab_xcs, tab_sub, UD_nx, UD_rt, UD_bk, UD_ct, UD_ex, spAt, glAt, gls, seqOf, List.map_cons, List.map_nil, List.cons_append, List.nil_append, List.length_cons, List.length_nil, List.replicate, Nat.reduceAdd, Nat.reduceSub, Nat.zero_add, reduceIte, Bool.false_eq_true, Bool.true_eq_false, Bool.false_bne, Bool.true_bne, Bool.not_true, Bool.not_false, Bool.not_not, List.reverse_cons, List.reverse_nil, Option.map_some, Option.map_none, up_same, uTuple, uList, uSet, atI_zero, atI_one, ixN_20, ixN_zero, List.set_cons_zero, uPow, t1__resample_sum, cl__resample_sum]
  refine ⟨_, rfl, ?_⟩
  refine ⟨_, rfl, fin.of ?_⟩
  rw [Int.zero_add]
  exact q
/-! ### resampled -/
def resL (ws hs : List Int) (up down : Int) : List Int := (rangeI 0 down (rlen 0 (ws.length * up) down)).map (resI ws hs up)
def sndW (s u d w : U) : Option Str := if isS s = true then ratesW u d w else some "sound"
def sp_resampled : USp := fun us G Q E => ∃ s u d w, us = [s, u, d, w] ∧ okS G s ∧ tyS G u ∧ tyS G d ∧ okS G w ∧ (tupL s).length ≤ 100000 ∧ (match sndW s u d w with
  | some x => E (xnu x) G
  | none => Q (.tup ((resL ((tupL s).map intV) ((tupL w).map intV) (intV u) (intV d)).map U.int)) G)
def cl_resampled : List (Str × USp) := [("is_sound", sp_is_sound), ("_resample_rates", sp__resample_rates), ("_resample_sum", sp__resample_sum)]
theorem ints_W : ∀ {ws : List U}, ws.all isW = true → ws = (ws.map intV).map U.int ∧ ∀ x ∈ ws.map intV, -1048575 ≤ x ∧ x ≤ 1048575
  | [], _ => ⟨rfl, by simp⟩
  | w :: ws, h => by
    simp only [List.all_cons, Bool.and_eq_true] at h
    obtain ⟨h1, h2⟩ := ints_W h.2
    cases w with
    | int i =>
      simp only [isW, Bool.and_eq_true, decide_eq_true_eq] at h
      refine ⟨by rw [List.map_cons, List.map_cons, ← h1]; rfl, fun x hx => ?_⟩
      rw [List.map_cons, List.mem_cons] at hx
      rcases hx with rfl | hx
      · exact h.1
      · exact h2 x hx
    | _ => cases h.1
theorem ints_Wt : ∀ {ws : List U}, ws.all okWt = true → ws = (ws.map intV).map U.int ∧ ∀ x ∈ ws.map intV, -65536 ≤ x ∧ x ≤ 65536
  | [], _ => ⟨rfl, by simp⟩
  | w :: ws, h => by
    simp only [List.all_cons, Bool.and_eq_true] at h
    obtain ⟨h1, h2⟩ := ints_Wt h.2
    cases w with
    | int i =>
      simp only [okWt, Bool.and_eq_true, decide_eq_true_eq] at h
      refine ⟨by rw [List.map_cons, List.map_cons, ← h1]; rfl, fun x hx => ?_⟩
      rw [List.map_cons, List.mem_cons] at hx
      rcases hx with rfl | hx
      · exact h.1
      · exact h2 x hx
    | _ => cases h.1
theorem rates_none {u d w : U} (h : ratesW u d w = none) : ∃ (i j : Int) (hs : List Int), u = .int i ∧ d = .int j ∧ w = .tup (hs.map U.int) ∧ 1 ≤ i ∧ i ≤ 64 ∧ 1 ≤ j ∧ j ≤ 64 ∧ 1 ≤ hs.length ∧ hs.length ≤ 64 ∧ (∀ x ∈ hs, -65536 ≤ x ∧ x ≤ 65536) ∧ hs = (tupL w).map intV := by
  unfold ratesW at h
  split at h
  · split at h
    · split at h
      · rename_i e1 e2 e3
        cases u with
        | int i =>
          cases d with
          | int j =>
            cases w with
            | tup ws =>
              simp only [okM, okWs, Bool.and_eq_true, decide_eq_true_eq] at e1 e2 e3
              obtain ⟨h1, h2⟩ := ints_Wt e3.2
              refine ⟨i, j, ws.map intV, rfl, rfl, by rw [← h1], e1.1, e1.2, e2.1, e2.2, by simpa using e3.1.1, by simpa using e3.1.2, h2, rfl⟩
            | _ => cases e3
          | _ => cases e2
        | _ => cases e1
      · cases h
    · cases h
  · cases h
theorem w_resampled (us : List U) (G : UH) (Q : UK) (E : UXn → UH → Prop) (h : sp_resampled us G Q E) : trSs (TB cl_resampled) (GM cl_resampled) b_resampled (UD Q E) (startU n_resampled us) G := by
  obtain ⟨s, u, d, w, rfl, hs, hu, hd, hw, hl, q⟩ := h
  simp only [trSs, trS, trE, trT, trX, pl, trA, trO, trC, trI, uBin_s, uUn_s, uVar_s, uC_s, getS, setS, uOp, uAdd, uSub, uMul, uDiv, uMod, uPow, uNeg, uCmp, uEqF, uLt, uLe, uGt, uGe, uIsF, isNonU, uTru, Blt.fn, uLen, uAbs, uMax2, uMin2, uInt, uIx, startU, gam_fn, gam_gl, tab_xcs, tab_sub, UD_nx, UD_rt, UD_bk, UD_ct, UD_ex, spAt, glAt, gls, seqOf, List.map_cons, List.map_nil, List.cons_append, List.nil_append, List.length_cons, List.length_nil, List.replicate, Nat.reduceAdd, Nat.reduceSub, Nat.zero_add, reduceIte, Bool.false_eq_true, Bool.true_eq_false, Bool.false_bne, Bool.true_bne, Bool.not_true, Bool.not_false, Bool.not_not, List.reverse_cons, List.reverse_nil, Option.map_some, Option.map_none, up_same, uTuple, uList, uSet, atI_zero, atI_one, ixN_20, ixN_zero, List.set_cons_zero, uPow, b_resampled, n_resampled, cl_resampled]
  refine ⟨s, rfl, hs, ?_⟩
  unfold sndW at q
  cases e : isS s with
  | false =>
    rw [e] at q
    simp only [trSs, trS, trE, trT, trX, pl, trA, trO, trC, trI, uBin_s, uUn_s, uVar_s, uC_s, getS, setS, uOp, uAdd, uSub, uMul, uDiv, uMod, uPow, uNeg, uCmp, uEqF, uLt, uLe, uGt, uGe, uIsF, isNonU, uTru, Blt.fn, uLen, uAbs, uMax2, uMin2, uInt, uIx, startU, gam_fn, gam_gl, tab_xcs, tab_sub, UD_nx, UD_rt, UD_bk, UD_ct, UD_ex, spAt, glAt, gls, seqOf, List.map_cons, List.map_nil, List.cons_append, List.nil_append, List.length_cons, List.length_nil, List.replicate, Nat.reduceAdd, Nat.reduceSub, Nat.zero_add, reduceIte, Bool.false_eq_true, Bool.true_eq_false, Bool.false_bne, Bool.true_bne, Bool.not_true, Bool.not_false, Bool.not_not, List.reverse_cons, List.reverse_nil, Option.map_some, Option.map_none, up_same, uTuple, uList, uSet, atI_zero, atI_one, ixN_20, ixN_zero, List.set_cons_zero, uPow]
    exact ⟨rfl, fin.of q⟩
  | true =>
    rw [e, if_pos rfl] at q
    simp only [trSs, trS, trE, trT, trX, pl, trA, trO, trC, trI, uBin_s, uUn_s, uVar_s, uC_s, getS, setS, uOp, uAdd, uSub, uMul, uDiv, uMod, uPow, uNeg, uCmp, uEqF, uLt, uLe, uGt, uGe, uIsF, isNonU, uTru, Blt.fn, uLen, uAbs, uMax2, uMin2, uInt, uIx, startU, gam_fn, gam_gl, tab_xcs, tab_sub, UD_nx, UD_rt, UD_bk, UD_ct, UD_ex, spAt, glAt, gls, seqOf, List.map_cons, List.map_nil, List.cons_append, List.nil_append, List.length_cons, List.length_nil, List.replicate, Nat.reduceAdd, Nat.reduceSub, Nat.zero_add, reduceIte, Bool.false_eq_true, Bool.true_eq_false, Bool.false_bne, Bool.true_bne, Bool.not_true, Bool.not_false, Bool.not_not, List.reverse_cons, List.reverse_nil, Option.map_some, Option.map_none, up_same, uTuple, uList, uSet, atI_zero, atI_one, ixN_20, ixN_zero, List.set_cons_zero, uPow, t2_resampled, cl_resampled]
    refine ⟨u, d, w, rfl, hu, hd, hw, ?_⟩
    cases e2 : ratesW u d w with
    | some x =>
      rw [e2] at q
      exact fin.of q
    | none =>
      rw [e2] at q
      obtain ⟨i, j, hs2, rfl, rfl, rfl, i1, i2, j1, j2, l1, l2, hb, eh⟩ := rates_none e2
      cases s with
      | tup ws =>
        obtain ⟨ew, bw⟩ := ints_W (show ws.all isW = true from e)
        have lg := line_ge
        have hl' : ws.length ≤ 100000 := hl
        have hmul : (ws.length : Int) * i ≤ 100000 * 64 := Int.mul_le_mul (by omega) i2 (by omega) (by omega)
        have hmul0 : 0 ≤ (ws.length : Int) * i := Int.mul_nonneg (by omega) (by omega)
        simp only [trSs, trS, trE, trT, trX, pl, trA, trO, trC, trI, uBin_s, uUn_s, uVar_s, uC_s, getS, setS, uOp, uAdd, uSub, uMul, uDiv, uMod, uPow, uNeg, uCmp, uEqF, uLt, uLe, uGt, uGe, uIsF, isNonU, uTru, Blt.fn, uLen, uAbs, uMax2, uMin2, uInt, uIx, startU, gam_fn, gam_gl, tab_xcs, tab_sub, UD_nx, UD_rt, UD_bk, UD_ct, UD_ex, spAt, glAt, gls, seqOf, List.map_cons, List.map_nil, List.cons_append, List.nil_append, List.length_cons, List.length_nil, List.replicate, Nat.reduceAdd, Nat.reduceSub, Nat.zero_add, reduceIte, Bool.false_eq_true, Bool.true_eq_false, Bool.false_bne, Bool.true_bne, Bool.not_true, Bool.not_false, Bool.not_not, List.reverse_cons, List.reverse_nil, Option.map_some, Option.map_none, up_same, uTuple, uList, uSet, atI_zero, atI_one, ixN_20, ixN_zero, List.set_cons_zero, uPow, t1_resampled, cl_resampled]
        refine ⟨mulR (by omega) (by omega), by unfold small62; omega, by unfold small62; omega, by omega, by omega, ?_⟩
        intro p hp
        rw [rangeU_map]
        have hr := rlen_le (i := 0) (j := ws.length * i) (c := j) (by omega)
        refine lcU_map (f := fun y => .int (resI (ws.map intV) hs2 i (intV y))) (fun _ => depsNil) _ [] (by rw [List.length_map, rangeI_len, List.length_nil]; omega) ?_ ?_
        · intro y hy acc K1 K0 k1
          obtain ⟨z, hz, rfl⟩ := List.mem_map.mp hy
          obtain ⟨n, hn, ez⟩ := rangeI_mem hz
          have hlt := rlen_lt (by omega) hn
          have hnn : 0 ≤ (n : Int) * j := Int.mul_nonneg (by omega) (by omega)
          simp only [trSs, trS, trE, trT, trX, pl, trA, trO, trC, trI, uBin_s, uUn_s, uVar_s, uC_s, getS, setS, uOp, uAdd, uSub, uMul, uDiv, uMod, uPow, uNeg, uCmp, uEqF, uLt, uLe, uGt, uGe, uIsF, isNonU, uTru, Blt.fn, uLen, uAbs, uMax2, uMin2, uInt, uIx, startU, gam_fn, gam_gl, tab_xcs, tab_sub, UD_nx, UD_rt, UD_bk, UD_ct, UD_ex, spAt, glAt, gls, seqOf, List.map_cons, List.map_nil, List.cons_append, List.nil_append, List.length_cons, List.length_nil, List.replicate, Nat.reduceAdd, Nat.reduceSub, Nat.zero_add, reduceIte, Bool.false_eq_true, Bool.true_eq_false, Bool.false_bne, Bool.true_bne, Bool.not_true, Bool.not_false, Bool.not_not, List.reverse_cons, List.reverse_nil, Option.map_some, Option.map_none, up_same, uTuple, uList, uSet, atI_zero, atI_one, ixN_20, ixN_zero, List.set_cons_zero, uPow, slotsG, slotsGs, wipeU, trG]
          refine ⟨ws.map intV, hs2, z, i, by rw [← ew], by omega, i1, i2, l2, by rw [List.length_map]; omega, by omega, hb, k1⟩
        · simp only [trSs, trS, trE, trT, trX, pl, trA, trO, trC, trI, uBin_s, uUn_s, uVar_s, uC_s, getS, setS, uOp, uAdd, uSub, uMul, uDiv, uMod, uPow, uNeg, uCmp, uEqF, uLt, uLe, uGt, uGe, uIsF, isNonU, uTru, Blt.fn, uLen, uAbs, uMax2, uMin2, uInt, uIx, startU, gam_fn, gam_gl, tab_xcs, tab_sub, UD_nx, UD_rt, UD_bk, UD_ct, UD_ex, spAt, glAt, gls, seqOf, List.map_cons, List.map_nil, List.cons_append, List.nil_append, List.length_cons, List.length_nil, List.replicate, Nat.reduceAdd, Nat.reduceSub, Nat.zero_add, reduceIte, Bool.false_eq_true, Bool.true_eq_false, Bool.false_bne, Bool.true_bne, Bool.not_true, Bool.not_false, Bool.not_not, List.reverse_cons, List.reverse_nil, Option.map_some, Option.map_none, up_same, uTuple, uList, uSet, atI_zero, atI_one, ixN_20, ixN_zero, List.set_cons_zero, uPow]
          refine ⟨G, .new hp, ?_⟩
          have eq1 : (resL ((tupL (.tup ws)).map intV) ((tupL (.tup (hs2.map U.int))).map intV) (intV (.int i)) (intV (.int j))).map U.int = ((rangeI 0 j (rlen 0 (ws.length * i) j)).map U.int).map fun y => U.int (resI (ws.map intV) hs2 i (intV y)) := by
            unfold resL
            rw [← eh]
            simp [tupL, intV]
          rw [← eq1]
          exact q
      | _ => cases e
end K71
set_option Elab.async false
set_option linter.all false
set_option autoImplicit false
set_option maxRecDepth 100000
set_option maxHeartbeats 4000000
namespace K71
open PySem PySem.Spec L2 UL
/-! ### _rate_divisor -/
def gcdI (a b : Int) : Int := (Nat.gcd a.toNat b.toNat : Nat)
def sp__rate_divisor : USp := fun us G Q _ => ∃ (a b : Int), us = [.int a, .int b] ∧ 0 ≤ a ∧ 0 ≤ b ∧ Q (.int (gcdI a b)) G
def cl__rate_divisor : List (Str × USp) := []
theorem gcd_step {a b : Int} (ha : 0 ≤ a) (hb : 0 < b) : gcdI b (a % b) = gcdI a b := by
  unfold gcdI
  congr 1
  have e : (a % b).toNat = a.toNat % b.toNat := by
    obtain ⟨n, rfl⟩ := Int.eq_ofNat_of_zero_le ha
    obtain ⟨m, rfl⟩ := Int.eq_ofNat_of_zero_le (Int.le_of_lt hb)
    rfl
  rw [e, Nat.gcd_comm b.toNat, ← Nat.gcd_rec, Nat.gcd_comm]
theorem gcd_end {a : Int} (ha : 0 ≤ a) : gcdI a 0 = a := by
  unfold gcdI
  simp
  omega
theorem w__rate_divisor (us : List U) (G : UH) (Q : UK) (E : UXn → UH → Prop) (h : sp__rate_divisor us G Q E) : trSs (TB cl__rate_divisor) (GM cl__rate_divisor) b__rate_divisor (UD Q E) (startU n__rate_divisor us) G := by
  obtain ⟨a, b, rfl, ha, hb, q⟩ := h
  simp only [trSs, trS, trE, trT, trX, pl, trA, trO, trC, trI, uBin_s, uUn_s, uVar_s, uC_s, getS, setS, uOp, uAdd, uSub, uMul, uDiv, uMod, uPow, uNeg, uCmp, uEqF, uLt, uLe, uGt, uGe, uIsF, isNonU, uTru, Blt.fn, uLen, uAbs, uMax2, uMin2, uInt, uIx, startU, gam_fn, gam_gl, tab_xcs, tab_sub, UD_nx, UD_rt, UD_bk, UD_ct, UD_ex, spAt, glAt, gls, seqOf, List.map_cons, List.map_nil, List.cons_append, List.nil_append, List.length_cons, List.length_nil, List.replicate, Nat.reduceAdd, Nat.reduceSub, Nat.zero_add, reduceIte, Bool.false_eq_true, Bool.true_eq_false, Bool.false_bne, Bool.true_bne, Bool.not_true, Bool.not_false, Bool.not_not, List.reverse_cons, List.reverse_nil, Option.map_some, Option.map_none, up_same, uTuple, uList, uSet, atI_zero, atI_one, ixN_20, ixN_zero, List.set_cons_zero, uPow, b__rate_divisor, n__rate_divisor]
  refine ⟨fun m s1 G1 => ∃ a' b' : Int, s1 = [some (.int a'), some (.int b')] ∧ m = b'.toNat ∧ G1 = G ∧ 0 ≤ a' ∧ 0 ≤ b' ∧ gcdI a' b' = gcdI a b, ⟨_, a, b, rfl, rfl, rfl, ha, hb, rfl⟩, ?_⟩
  rintro m s1 G1 ⟨a', b', rfl, rfl, rfl, ha', hb', eg⟩
  simp only [trSs, trS, trE, trT, trX, pl, trA, trO, trC, trI, uBin_s, uUn_s, uVar_s, uC_s, getS, setS, uOp, uAdd, uSub, uMul, uDiv, uMod, uPow, uNeg, uCmp, uEqF, uLt, uLe, uGt, uGe, uIsF, isNonU, uTru, Blt.fn, uLen, uAbs, uMax2, uMin2, uInt, uIx, startU, gam_fn, gam_gl, tab_xcs, tab_sub, UD_nx, UD_rt, UD_bk, UD_ct, UD_ex, spAt, glAt, gls, seqOf, List.map_cons, List.map_nil, List.cons_append, List.nil_append, List.length_cons, List.length_nil, List.replicate, Nat.reduceAdd, Nat.reduceSub, Nat.zero_add, reduceIte, Bool.false_eq_true, Bool.true_eq_false, Bool.false_bne, Bool.true_bne, Bool.not_true, Bool.not_false, Bool.not_not, List.reverse_cons, List.reverse_nil, Option.map_some, Option.map_none, up_same, uTuple, uList, uSet, atI_zero, atI_one, ixN_20, ixN_zero, List.set_cons_zero, uPow]
  by_cases h0 : b' = 0
  · subst h0
    simp only [trSs, trS, trE, trT, trX, pl, trA, trO, trC, trI, uBin_s, uUn_s, uVar_s, uC_s, getS, setS, uOp, uAdd, uSub, uMul, uDiv, uMod, uPow, uNeg, uCmp, uEqF, uLt, uLe, uGt, uGe, uIsF, isNonU, uTru, Blt.fn, uLen, uAbs, uMax2, uMin2, uInt, uIx, startU, gam_fn, gam_gl, tab_xcs, tab_sub, UD_nx, UD_rt, UD_bk, UD_ct, UD_ex, spAt, glAt, gls, seqOf, List.map_cons, List.map_nil, List.cons_append, List.nil_append, List.length_cons, List.length_nil, List.replicate, Nat.reduceAdd, Nat.reduceSub, Nat.zero_add, reduceIte, Bool.false_eq_true, Bool.true_eq_false, Bool.false_bne, Bool.true_bne, Bool.not_true, Bool.not_false, Bool.not_not, List.reverse_cons, List.reverse_nil, Option.map_some, Option.map_none, up_same, uTuple, uList, uSet, atI_zero, atI_one, ixN_20, ixN_zero, List.set_cons_zero, uPow, t1__rate_divisor, show ((0 : Int) != 0) = false from rfl]
    refine fin.of ?_
    rw [gcd_end ha'] at eg
    rw [eg]
    exact q
  · have hn : (b' != 0) = true := by simpa using h0
    simp only [trSs, trS, trE, trT, trX, pl, trA, trO, trC, trI, uBin_s, uUn_s, uVar_s, uC_s, getS, setS, uOp, uAdd, uSub, uMul, uDiv, uMod, uPow, uNeg, uCmp, uEqF, uLt, uLe, uGt, uGe, uIsF, isNonU, uTru, Blt.fn, uLen, uAbs, uMax2, uMin2, uInt, uIx, startU, gam_fn, gam_gl, tab_xcs, tab_sub, UD_nx, UD_rt, UD_bk, UD_ct, UD_ex, spAt, glAt, gls, seqOf, List.map_cons, List.map_nil, List.cons_append, List.nil_append, List.length_cons, List.length_nil, List.replicate, Nat.reduceAdd, Nat.reduceSub, Nat.zero_add, reduceIte, Bool.false_eq_true, Bool.true_eq_false, Bool.false_bne, Bool.true_bne, Bool.not_true, Bool.not_false, Bool.not_not, List.reverse_cons, List.reverse_nil, Option.map_some, Option.map_none, up_same, uTuple, uList, uSet, atI_zero, atI_one, ixN_20, ixN_zero, List.set_cons_zero, uPow, hn, l1__rate_divisor]
    refine ⟨by omega, _, _, ?_, .refl _, _, _, rfl, rfl, rfl, hb', Int.emod_nonneg _ h0, ?_⟩
    · have := Int.emod_lt_of_pos a' (by omega : 0 < b')
      have := Int.emod_nonneg a' h0
      omega
    · rw [gcd_step ha' (by omega)]
      exact eg
/-! ### steady -/
def binI (hs : List Int) (up r : Int) : Int := ((rangeI r up (rlen r hs.length up)).map fun j => hs.getD j.toNat 0).sum
def badI (hs : List Int) (up down : Int) : List Int := (rangeI 0 (gcdI up down) (rlen 0 up (gcdI up down))).filter fun r => decide (binI hs up r ≠ 4096)
def steadyU : List Int → U
  | [] => .bl true
  | r :: _ => .int r
def sp_steady : USp := fun us G Q E => ∃ u d w, us = [u, d, w] ∧ tyS G u ∧ tyS G d ∧ okS G w ∧ (match ratesW u d w with
  | some x => E (xnu x) G
  | none => Q (steadyU (badI ((tupL w).map intV) (intV u) (intV d))) G)
def cl_steady : List (Str × USp) := [("_resample_rates", sp__resample_rates), ("_rate_divisor", sp__rate_divisor)]
theorem l_steady {G0 : UH} {hs : List Int} {up down : Int} (h1 : 1 ≤ up) (h2 : up ≤ 64) (hl : hs.length ≤ 64) (D : UE) : ∀ (rs : List Int) (o o2 : Option U) (G : UH), Le G0 G → (∀ r ∈ rs, 0 ≤ r ∧ r < 64) →
    (∀ r G', Le G0 G' → (rs.filter fun r => decide (binI hs up r ≠ 4096)).head? = some r → D.rt (.int r) G') → (∀ o o2 G', Le G0 G' → (rs.filter fun r => decide (binI hs up r ≠ 4096)) = [] → D.nx [some (.int up), some (.int down), some (.tup (hs.map U.int)), o, o2] G') →
    forU [] (trG (.nm 3)) (trSs (TB cl_steady) (GM cl_steady) l1_steady) D (List.map U.int rs) [some (.int up), some (.int down), some (.tup (hs.map U.int)), o, o2] G
  | [], o, o2, G, l, _, _, q => ⟨trivial, q o o2 G l rfl⟩
  | r :: rs, o, o2, G, l, hr, qr, qn => by
    refine ⟨trivial, ?_⟩
    generalize hT : forU _ _ _ D (List.map U.int rs) = T
    obtain ⟨r0, r1⟩ := hr r List.mem_cons_self
    simp only [trSs, trS, trE, trT, trX, pl, trA, trO, trC, trI, uBin_s, uUn_s, uVar_s, uC_s, getS, setS, uOp, uAdd, uSub, uMul, uDiv, uMod, uPow, uNeg, uCmp, uEqF, uLt, uLe, uGt, uGe, uIsF, isNonU, uTru, Blt.fn, uLen, uAbs, uMax2, uMin2, uInt, uIx, startU, gam_fn, gam_gl, tab_xcs, tab_sub, UD_nx, UD_rt, UD_bk, UD_ct, UD_ex, spAt, glAt, gls, seqOf, List.map_cons, List.map_nil, List.cons_append, List.nil_append, List.length_cons, List.length_nil, List.replicate, Nat.reduceAdd, Nat.reduceSub, Nat.zero_add, reduceIte, Bool.false_eq_true, Bool.true_eq_false, Bool.false_bne, Bool.true_bne, Bool.not_true, Bool.not_false, Bool.not_not, List.reverse_cons, List.reverse_nil, Option.map_some, Option.map_none, up_same, uTuple, uList, uSet, atI_zero, atI_one, ixN_20, ixN_zero, List.set_cons_zero, uPow, trG, l1_steady, List.length_map]
    refine ⟨by unfold small62; omega, by unfold small62; omega, by omega, by omega, ?_⟩
    intro p hp
    rw [rangeU_map]
    have lg := line_ge
    have hr2 := rlen_le (i := r) (j := (hs.length : Int)) (c := up) (by omega)
    refine lcU_map (f := fun y => .int (hs.getD (intV y).toNat 0)) (fun _ => depsNil) _ [] (by rw [List.length_map, rangeI_len, List.length_nil]; omega) ?_ ?_
    · intro y hy acc K1 K0 k1
      obtain ⟨z, hz, rfl⟩ := List.mem_map.mp hy
      obtain ⟨n, hn, ez⟩ := rangeI_mem hz
      have hlt := rlen_lt (by omega) hn
      have hnn : 0 ≤ (n : Int) * up := Int.mul_nonneg (by omega) (by omega)
      simp only [trSs, trS, trE, trT, trX, pl, trA, trO, trC, trI, uBin_s, uUn_s, uVar_s, uC_s, getS, setS, uOp, uAdd, uSub, uMul, uDiv, uMod, uPow, uNeg, uCmp, uEqF, uLt, uLe, uGt, uGe, uIsF, isNonU, uTru, Blt.fn, uLen, uAbs, uMax2, uMin2, uInt, uIx, startU, gam_fn, gam_gl, tab_xcs, tab_sub, UD_nx, UD_rt, UD_bk, UD_ct, UD_ex, spAt, glAt, gls, seqOf, List.map_cons, List.map_nil, List.cons_append, List.nil_append, List.length_cons, List.length_nil, List.replicate, Nat.reduceAdd, Nat.reduceSub, Nat.zero_add, reduceIte, Bool.false_eq_true, Bool.true_eq_false, Bool.false_bne, Bool.true_bne, Bool.not_true, Bool.not_false, Bool.not_not, List.reverse_cons, List.reverse_nil, Option.map_some, Option.map_none, up_same, uTuple, uList, uSet, atI_zero, atI_one, ixN_20, ixN_zero, List.set_cons_zero, uPow, slotsG, slotsGs, wipeU, trG, atI_int (show 0 ≤ z by omega) (show z < hs.length by omega)]
      exact k1
    · have e1 : ((rangeI r up (rlen r hs.length up)).map U.int).map (fun y => U.int (hs.getD (intV y).toNat 0)) = ((rangeI r up (rlen r hs.length up)).map fun j => hs.getD j.toNat 0).map U.int := by simp [intV]
      simp only [trSs, trS, trE, trT, trX, pl, trA, trO, trC, trI, uBin_s, uUn_s, uVar_s, uC_s, getS, setS, uOp, uAdd, uSub, uMul, uDiv, uMod, uPow, uNeg, uCmp, uEqF, uLt, uLe, uGt, uGe, uIsF, isNonU, uTru, Blt.fn, uLen, uAbs, uMax2, uMin2, uInt, uIx, startU, gam_fn, gam_gl, tab_xcs, tab_sub, UD_nx, UD_rt, UD_bk, UD_ct, UD_ex, spAt, glAt, gls, seqOf, List.map_cons, List.map_nil, List.cons_append, List.nil_append, List.length_cons, List.length_nil, List.replicate, Nat.reduceAdd, Nat.reduceSub, Nat.zero_add, reduceIte, Bool.false_eq_true, Bool.true_eq_false, Bool.false_bne, Bool.true_bne, Bool.not_true, Bool.not_false, Bool.not_not, List.reverse_cons, List.reverse_nil, Option.map_some, Option.map_none, up_same, uTuple, uList, uSet, atI_zero, atI_one, ixN_20, ixN_zero, List.set_cons_zero, uPow, uSum, uIntL, e1, intsOf_map]
      have l2 : Le G0 (UL.up G p (.lst (((rangeI r up (rlen r hs.length up)).map fun j => hs.getD j.toNat 0).map U.int))) := l.trans (.new hp)
      by_cases hb : ((rangeI r up (rlen r hs.length up)).map fun j => hs.getD j.toNat 0).sum = 4096
      · have hd : decide (binI hs up r ≠ 4096) = false := decide_eq_false (by unfold binI; simpa using hb)
        simp only [trSs, trS, trE, trT, trX, pl, trA, trO, trC, trI, uBin_s, uUn_s, uVar_s, uC_s, getS, setS, uOp, uAdd, uSub, uMul, uDiv, uMod, uPow, uNeg, uCmp, uEqF, uLt, uLe, uGt, uGe, uIsF, isNonU, uTru, Blt.fn, uLen, uAbs, uMax2, uMin2, uInt, uIx, startU, gam_fn, gam_gl, tab_xcs, tab_sub, UD_nx, UD_rt, UD_bk, UD_ct, UD_ex, spAt, glAt, gls, seqOf, List.map_cons, List.map_nil, List.cons_append, List.nil_append, List.length_cons, List.length_nil, List.replicate, Nat.reduceAdd, Nat.reduceSub, Nat.zero_add, reduceIte, Bool.false_eq_true, Bool.true_eq_false, Bool.false_bne, Bool.true_bne, Bool.not_true, Bool.not_false, Bool.not_not, List.reverse_cons, List.reverse_nil, Option.map_some, Option.map_none, up_same, uTuple, uList, uSet, atI_zero, atI_one, ixN_20, ixN_zero, List.set_cons_zero, uPow, hb, decide_true]
        refine ⟨_, .refl _, ?_⟩
        subst hT
        refine l_steady h1 h2 hl D rs _ _ _ l2 (fun x hx => hr x (List.mem_cons_of_mem _ hx)) (fun x G' l3 hx => qr x G' l3 ?_) (fun o o2 G' l3 hx => qn o o2 G' l3 ?_)
        · rw [List.filter_cons, hd, if_neg Bool.false_ne_true]
          exact hx
        · rw [List.filter_cons, hd, if_neg Bool.false_ne_true]
          exact hx
      · have hd : decide (binI hs up r ≠ 4096) = true := decide_eq_true (by unfold binI; simpa using hb)
        simp only [trSs, trS, trE, trT, trX, pl, trA, trO, trC, trI, uBin_s, uUn_s, uVar_s, uC_s, getS, setS, uOp, uAdd, uSub, uMul, uDiv, uMod, uPow, uNeg, uCmp, uEqF, uLt, uLe, uGt, uGe, uIsF, isNonU, uTru, Blt.fn, uLen, uAbs, uMax2, uMin2, uInt, uIx, startU, gam_fn, gam_gl, tab_xcs, tab_sub, UD_nx, UD_rt, UD_bk, UD_ct, UD_ex, spAt, glAt, gls, seqOf, List.map_cons, List.map_nil, List.cons_append, List.nil_append, List.length_cons, List.length_nil, List.replicate, Nat.reduceAdd, Nat.reduceSub, Nat.zero_add, reduceIte, Bool.false_eq_true, Bool.true_eq_false, Bool.false_bne, Bool.true_bne, Bool.not_true, Bool.not_false, Bool.not_not, List.reverse_cons, List.reverse_nil, Option.map_some, Option.map_none, up_same, uTuple, uList, uSet, atI_zero, atI_one, ixN_20, ixN_zero, List.set_cons_zero, uPow, hb, decide_false]
        refine qr r _ l2 ?_
        rw [List.filter_cons, hd, if_pos rfl]
        rfl
theorem gcd_bd {a b : Int} (ha : 1 ≤ a) (h : a ≤ 64) : 1 ≤ gcdI a b ∧ gcdI a b ≤ 64 := by
  unfold gcdI
  have h1 : Nat.gcd a.toNat b.toNat ≤ a.toNat := Nat.gcd_le_left _ (by omega)
  have h2 : 0 < Nat.gcd a.toNat b.toNat := Nat.gcd_pos_of_pos_left _ (by omega)
  omega
theorem w_steady (us : List U) (G : UH) (Q : UK) (E : UXn → UH → Prop) (h : sp_steady us G Q E) : trSs (TB cl_steady) (GM cl_steady) b_steady (UD Q E) (startU n_steady us) G := by
  obtain ⟨u, d, w, rfl, hu, hd, hw, q⟩ := h
  simp only [trSs, trS, trE, trT, trX, pl, trA, trO, trC, trI, uBin_s, uUn_s, uVar_s, uC_s, getS, setS, uOp, uAdd, uSub, uMul, uDiv, uMod, uPow, uNeg, uCmp, uEqF, uLt, uLe, uGt, uGe, uIsF, isNonU, uTru, Blt.fn, uLen, uAbs, uMax2, uMin2, uInt, uIx, startU, gam_fn, gam_gl, tab_xcs, tab_sub, UD_nx, UD_rt, UD_bk, UD_ct, UD_ex, spAt, glAt, gls, seqOf, List.map_cons, List.map_nil, List.cons_append, List.nil_append, List.length_cons, List.length_nil, List.replicate, Nat.reduceAdd, Nat.reduceSub, Nat.zero_add, reduceIte, Bool.false_eq_true, Bool.true_eq_false, Bool.false_bne, Bool.true_bne, Bool.not_true, Bool.not_false, Bool.not_not, List.reverse_cons, List.reverse_nil, Option.map_some, Option.map_none, up_same, uTuple, uList, uSet, atI_zero, atI_one, ixN_20, ixN_zero, List.set_cons_zero, uPow, b_steady, n_steady, cl_steady]
  refine ⟨u, d, w, rfl, hu, hd, hw, ?_⟩
  cases e2 : ratesW u d w with
  | some x =>
    rw [e2] at q
    exact fin.of q
  | none =>
    rw [e2] at q
    obtain ⟨i, j, hs, rfl, rfl, rfl, i1, i2, j1, j2, l1, l2, hb, eh⟩ := rates_none e2
    obtain ⟨g1, g2⟩ := gcd_bd (b := j) i1 i2
    simp only [trSs, trS, trE, trT, trX, pl, trA, trO, trC, trI, uBin_s, uUn_s, uVar_s, uC_s, getS, setS, uOp, uAdd, uSub, uMul, uDiv, uMod, uPow, uNeg, uCmp, uEqF, uLt, uLe, uGt, uGe, uIsF, isNonU, uTru, Blt.fn, uLen, uAbs, uMax2, uMin2, uInt, uIx, startU, gam_fn, gam_gl, tab_xcs, tab_sub, UD_nx, UD_rt, UD_bk, UD_ct, UD_ex, spAt, glAt, gls, seqOf, List.map_cons, List.map_nil, List.cons_append, List.nil_append, List.length_cons, List.length_nil, List.replicate, Nat.reduceAdd, Nat.reduceSub, Nat.zero_add, reduceIte, Bool.false_eq_true, Bool.true_eq_false, Bool.false_bne, Bool.true_bne, Bool.not_true, Bool.not_false, Bool.not_not, List.reverse_cons, List.reverse_nil, Option.map_some, Option.map_none, up_same, uTuple, uList, uSet, atI_zero, atI_one, ixN_20, ixN_zero, List.set_cons_zero, uPow, t2_steady, cl_steady]
    refine ⟨i, j, rfl, by omega, by omega, ?_⟩
    simp only [trSs, trS, trE, trT, trX, pl, trA, trO, trC, trI, uBin_s, uUn_s, uVar_s, uC_s, getS, setS, uOp, uAdd, uSub, uMul, uDiv, uMod, uPow, uNeg, uCmp, uEqF, uLt, uLe, uGt, uGe, uIsF, isNonU, uTru, Blt.fn, uLen, uAbs, uMax2, uMin2, uInt, uIx, startU, gam_fn, gam_gl, tab_xcs, tab_sub, UD_nx, UD_rt, UD_bk, UD_ct, UD_ex, spAt, glAt, gls, seqOf, List.map_cons, List.map_nil, List.cons_append, List.nil_append, List.length_cons, List.length_nil, List.replicate, Nat.reduceAdd, Nat.reduceSub, Nat.zero_add, reduceIte, Bool.false_eq_true, Bool.true_eq_false, Bool.false_bne, Bool.true_bne, Bool.not_true, Bool.not_false, Bool.not_not, List.reverse_cons, List.reverse_nil, Option.map_some, Option.map_none, up_same, uTuple, uList, uSet, atI_zero, atI_one, ixN_20, ixN_zero, List.set_cons_zero, uPow]
    refine ⟨by unfold small62; omega, by unfold small62; omega, by omega, by omega, ?_⟩
    rw [rangeU_map]
    rw [← eh] at q
    refine l_steady i1 i2 l2 _ _ none none G (.refl G) (fun r hr => ?_) (fun r G' l hr => ?_) (fun o o2 G' l hr => ?_)
    · obtain ⟨n, hn, e⟩ := rangeI_mem hr
      have hlt := rlen_lt (by omega) hn
      have hnn : 0 ≤ (n : Int) * gcdI i j := Int.mul_nonneg (by omega) (by omega)
      omega
    · refine ⟨G, l, ?_⟩
      have e3 : ∃ t, badI hs i j = r :: t := by
        unfold badI
        cases e4 : (rangeI 0 (gcdI i j) (rlen 0 i (gcdI i j))).filter fun r => decide (binI hs i r ≠ 4096) with
        | nil => rw [e4] at hr; cases hr
        | cons a t => rw [e4] at hr; cases hr; exact ⟨t, rfl⟩
      obtain ⟨t, e3⟩ := e3
      have q' : Q (steadyU (badI hs i j)) G := q
      rw [e3] at q'
      exact q'
    · simp only [trSs, trS, trE, trT, trX, pl, trA, trO, trC, trI, uBin_s, uUn_s, uVar_s, uC_s, getS, setS, uOp, uAdd, uSub, uMul, uDiv, uMod, uPow, uNeg, uCmp, uEqF, uLt, uLe, uGt, uGe, uIsF, isNonU, uTru, Blt.fn, uLen, uAbs, uMax2, uMin2, uInt, uIx, startU, gam_fn, gam_gl, tab_xcs, tab_sub, UD_nx, UD_rt, UD_bk, UD_ct, UD_ex, spAt, glAt, gls, seqOf, List.map_cons, List.map_nil, List.cons_append, List.nil_append, List.length_cons, List.length_nil, List.replicate, Nat.reduceAdd, Nat.reduceSub, Nat.zero_add, reduceIte, Bool.false_eq_true, Bool.true_eq_false, Bool.false_bne, Bool.true_bne, Bool.not_true, Bool.not_false, Bool.not_not, List.reverse_cons, List.reverse_nil, Option.map_some, Option.map_none, up_same, uTuple, uList, uSet, atI_zero, atI_one, ixN_20, ixN_zero, List.set_cons_zero, uPow, t1_steady]
      refine ⟨G, l, ?_⟩
      have q' : Q (steadyU (badI hs i j)) G := q
      rw [show badI hs i j = [] from hr] at q'
      exact q'
end K71
set_option Elab.async false
set_option linter.all false
set_option autoImplicit false
set_option maxRecDepth 100000
set_option maxHeartbeats 4000000
namespace K71
open PySem PySem.Spec L2 UL
/-! ### plain laws of the rows -/
theorem fm_range {α : Type} {f : Nat → Option α} : ∀ n, (∀ m, m < n → ∃ x, f m = some x) → ((List.range n).filterMap f).length = n ∧ ∀ i, ((List.range n).filterMap f)[i]? = if i < n then f i else none
  | 0, _ => ⟨rfl, fun i => by simp⟩
  | n + 1, h => by
    obtain ⟨h1, h2⟩ := fm_range n (fun m hm => h m (by omega))
    obtain ⟨x, hx⟩ := h n (by omega)
    have e : (List.range (n + 1)).filterMap f = (List.range n).filterMap f ++ [x] := by
      rw [List.range_succ, List.filterMap_append]
      simp [hx]
    rw [e]
    refine ⟨by rw [List.length_append, h1]; rfl, fun i => ?_⟩
    rw [List.getElem?_append, h1]
    by_cases c : i < n
    · rw [if_pos c, h2, if_pos c, if_pos (by omega)]
    · rw [if_neg c]
      by_cases c2 : i = n
      · subst c2
        simp [hx]
      · rw [if_neg (by omega)]
        exact List.getElem?_eq_none (by simp; omega)
theorem stp_get {α : Type} (xs : List α) {c : Int} (hc : 1 ≤ c) (i : Nat) : (stp xs c)[i]? = xs[i * c.toNat]? := by
  obtain ⟨m, rfl⟩ := Int.eq_ofNat_of_zero_le (show 0 ≤ c by omega)
  have hm : 1 ≤ m := by omega
  have hn : ∀ j : Nat, j < stpN (m : Int) xs.length ↔ j * m < xs.length := by
    intro j
    unfold stpN
    rw [if_pos (show (m : Int) > 0 by omega)]
    by_cases h0 : (0 : Int) < (xs.length : Int)
    · rw [if_pos h0]
      have e : (((xs.length : Int) - 0 - 1) / (m : Int) + 1).toNat = (xs.length - 1) / m + 1 := by
        have : ((xs.length : Int) - 0 - 1) = ((xs.length - 1 : Nat) : Int) := by omega
        rw [this, ← Int.natCast_ediv]
        generalize (xs.length - 1) / m = z
        omega
      rw [e, Nat.lt_succ_iff, Nat.le_div_iff_mul_le (by omega)]
      omega
    · rw [if_neg h0]
      have : xs.length = 0 := by omega
      simp [this]
  have hlo : stpLo (m : Int) xs.length = 0 := by
    unfold stpLo
    rw [if_neg (by omega)]
  have hf : ∀ j : Nat, (0 + (j : Int) * (m : Int)).toNat = j * m := by
    intro j
    rw [Int.zero_add, ← Int.natCast_mul]
    rfl
  unfold stp
  simp only [hlo, hf, Int.toNat_natCast]
  rw [(fm_range (f := fun j => xs[j * m]?) _ (fun j hj => ?_)).2 i]
  · by_cases c : i < stpN (m : Int) xs.length
    · rw [if_pos c]
    · rw [if_neg c]
      rw [hn] at c
      exact (List.getElem?_eq_none (by omega)).symm
  · rw [hn] at hj
    exact ⟨_, List.getElem?_eq_getElem hj⟩
def spN (ws : List U) (p : Nat) : List U := ws.flatMap fun w => w :: List.replicate (p - 1) (.int 0)
theorem spreadL_N (ws : List U) {m : Int} (hm : 1 ≤ m) : spreadL ws m = spN ws m.toNat := by
  unfold spreadL spN
  have : (m - 1).toNat = m.toNat - 1 := by omega
  rw [this]
theorem spN_len (p : Nat) (hp : 1 ≤ p) : ∀ ws : List U, (spN ws p).length = ws.length * p
  | [] => by simp [spN]
  | w :: ws => by
    have ih := spN_len p hp ws
    unfold spN at ih ⊢
    rw [List.flatMap_cons, List.length_append, ih, List.length_cons, List.length_replicate, List.length_cons, Nat.add_mul]
    omega
theorem spN_get {p : Nat} (hp : 1 ≤ p) : ∀ (ws : List U) (j : Nat), (spN ws p)[j]? = if j % p = 0 then ws[j / p]? else (if j / p < ws.length then some (.int 0) else none)
  | [], j => by simp [spN]
  | w :: ws, j => by
    have e : spN (w :: ws) p = (w :: List.replicate (p - 1) (.int 0)) ++ spN ws p := by unfold spN; rw [List.flatMap_cons]
    rw [e, List.getElem?_append]
    have hl : (w :: List.replicate (p - 1) (U.int 0)).length = p := by rw [List.length_cons, List.length_replicate]; omega
    rw [hl]
    by_cases c : j < p
    · rw [if_pos c, Nat.mod_eq_of_lt c, Nat.div_eq_of_lt c]
      cases j with
      | zero => simp
      | succ j =>
        rw [List.getElem?_cons_succ, List.getElem?_replicate, if_pos (by omega), if_neg (by omega), if_pos (by simp)]
    · rw [if_neg c, spN_get hp ws (j - p)]
      have e1 : j = (j - p) + p := by omega
      have e2 : j % p = (j - p) % p := by
        have := Nat.add_mod_right (j - p) p
        rw [← e1] at this
        exact this
      have e3 : j / p = (j - p) / p + 1 := by
        have := Nat.add_div_right (j - p) (show 0 < p by omega)
        rw [← e1] at this
        exact this
      rw [e2, e3, List.getElem?_cons_succ, List.length_cons]
      simp only [Nat.add_lt_add_iff_right]
theorem comm_iff_len {p q i n : Nat} (hp : 1 ≤ p) (hq : 1 ≤ q) : i * q / p < n * q ↔ i / p < n := by
  rw [Nat.div_lt_iff_lt_mul (by omega), Nat.div_lt_iff_lt_mul (by omega), Nat.mul_right_comm]
  exact ⟨fun h => Nat.lt_of_mul_lt_mul_right h, fun h => Nat.mul_lt_mul_of_pos_right h (by omega)⟩
theorem comm_eq {ws : List U} {p q : Int} {n : Nat} (hp : 1 ≤ p) (hq : 1 ≤ q) (hl : ws.length = n * q.toNat) (hg : gcdI p q = 1) : stp (spreadL ws p) q = spreadL (stp ws q) p := by
  have hg' : Nat.Coprime p.toNat q.toNat := by
    unfold gcdI at hg
    exact Int.ofNat.inj hg
  obtain ⟨P, rfl⟩ := Int.eq_ofNat_of_zero_le (show 0 ≤ p by omega)
  obtain ⟨Q, rfl⟩ := Int.eq_ofNat_of_zero_le (show 0 ≤ q by omega)
  simp only [Int.toNat_natCast] at hl hg'
  have p1 : 1 ≤ P := by omega
  have q1 : 1 ≤ Q := by omega
  apply List.ext_getElem?
  intro i
  rw [stp_get _ hq, spreadL_N _ hp, spreadL_N _ hp]
  simp only [Int.toNat_natCast]
  rw [spN_get p1, spN_get p1]
  have hlen : (stp ws (Q : Int)).length = n := by
    have h1 : ∀ i : Nat, i < (stp ws (Q : Int)).length ↔ i < n := by
      intro i
      have h := stp_get ws hq i
      simp only [Int.toNat_natCast] at h
      by_cases c : i < (stp ws (Q : Int)).length
      · rw [List.getElem?_eq_getElem c] at h
        have := (List.getElem?_eq_some_iff.mp h.symm).1
        rw [hl] at this
        exact ⟨fun _ => Nat.lt_of_mul_lt_mul_right this, fun _ => c⟩
      · rw [List.getElem?_eq_none (by omega)] at h
        have := List.getElem?_eq_none_iff.mp h.symm
        rw [hl] at this
        exact ⟨fun z => absurd z c, fun z => by
          have := Nat.mul_lt_mul_of_pos_right z (show 0 < Q by omega)
          omega⟩
    have a := (not_congr (h1 n)).mpr (by omega)
    have b := (not_congr (h1 ((stp ws (Q : Int)).length))).mp (by omega)
    omega
  by_cases c : i % P = 0
  · rw [if_pos c]
    have e : i = P * (i / P) := by have := Nat.div_add_mod i P; omega
    have c2 : i * Q % P = 0 := by rw [e, Nat.mul_assoc]; exact Nat.mul_mod_right _ _
    have e2 : i * Q / P = i / P * Q := by
      conv => lhs; rw [e, Nat.mul_assoc]
      exact Nat.mul_div_cancel_left _ (by omega)
    rw [if_pos c2, e2, stp_get ws hq]
    rfl
  · rw [if_neg c]
    have c2 : ¬ i * Q % P = 0 := by
      intro z
      have d : P ∣ i * Q := Nat.dvd_of_mod_eq_zero z
      exact c (Nat.mod_eq_zero_of_dvd (Nat.Coprime.dvd_of_dvd_mul_right hg' d))
    rw [if_neg c2, hl, hlen]
    by_cases c3 : i / P < n
    · rw [if_pos c3, if_pos ((comm_iff_len p1 q1).mpr c3)]
    · rw [if_neg c3, if_neg fun z => c3 ((comm_iff_len p1 q1).mp z)]
theorem comm_ne {p q : Int} (hp : 1 ≤ p) (hq : 1 ≤ q) (hg : gcdI p q ≠ 1) : stp (spreadL (List.replicate q.toNat (.int 1)) p) q ≠ spreadL (stp (List.replicate q.toNat (.int 1)) q) p := by
  obtain ⟨P, rfl⟩ := Int.eq_ofNat_of_zero_le (show 0 ≤ p by omega)
  obtain ⟨Q, rfl⟩ := Int.eq_ofNat_of_zero_le (show 0 ≤ q by omega)
  have p1 : 1 ≤ P := by omega
  have q1 : 1 ≤ Q := by omega
  simp only [Int.toNat_natCast]
  have hg' : Nat.gcd P Q ≠ 1 := fun z => hg (by unfold gcdI; simp only [Int.toNat_natCast]; rw [z]; rfl)
  generalize hd : Nat.gcd P Q = d at hg'
  have d0 : 0 < d := by rw [← hd]; exact Nat.gcd_pos_of_pos_left _ (by omega)
  obtain ⟨a, ha⟩ : d ∣ P := hd ▸ Nat.gcd_dvd_left P Q
  obtain ⟨b, hb⟩ : d ∣ Q := hd ▸ Nat.gcd_dvd_right P Q
  have a0 : 0 < a := by
    rcases Nat.eq_zero_or_pos a with z | z
    · subst z; omega
    · exact z
  have b0 : 0 < b := by
    rcases Nat.eq_zero_or_pos b with z | z
    · subst z; omega
    · exact z
  have aP : a < P := by
    have : 2 * a ≤ d * a := Nat.mul_le_mul_right a (by omega)
    omega
  have bQ : b < Q := by
    have : 2 * b ≤ d * b := Nat.mul_le_mul_right b (by omega)
    omega
  intro z
  have z : (stp (spreadL (List.replicate Q (.int 1)) (P : Int)) (Q : Int))[a]? = (spreadL (stp (List.replicate Q (.int 1)) (Q : Int)) (P : Int))[a]? := by rw [z]
  rw [stp_get _ hq, spreadL_N _ hp, spreadL_N _ hp] at z
  simp only [Int.toNat_natCast] at z
  rw [spN_get p1, spN_get p1] at z
  have e : a * Q = P * b := by rw [ha, hb, ← Nat.mul_assoc, Nat.mul_comm a d]
  rw [e, Nat.mul_mod_right, if_pos rfl, Nat.mul_div_cancel_left _ (by omega), List.getElem?_replicate, if_pos bQ, if_neg (by rw [Nat.mod_eq_of_lt aP]; omega)] at z
  split at z
  · cases z
  · cases z
/-! the row of the law's own kept -/
def keptL (m : Int) : Nat → List U → List U
  | _, [] => []
  | i, u :: us => if (i : Int) - (i : Int) / m * m = 0 then u :: keptL m (i + 1) us else keptL m (i + 1) us
theorem kept_get {m : Nat} (hm : 1 ≤ m) : ∀ (us : List U) (i r : Nat), r < m → (i + r) % m = 0 → ∀ t : Nat, (keptL (m : Int) i us)[t]? = us[t * m + r]?
  | [], i, r, _, _, t => by simp [keptL]
  | u :: us, i, r, hr, h, t => by
    unfold keptL
    have ei : ((i : Int) - (i : Int) / (m : Int) * (m : Int) = 0) ↔ i % m = 0 := by
      have := Int.emod_def (i : Int) (m : Int)
      have e2 : ((i % m : Nat) : Int) = (i : Int) % (m : Int) := Int.natCast_emod i m
      have e3 : (m : Int) * ((i : Int) / (m : Int)) = (i : Int) / (m : Int) * (m : Int) := Int.mul_comm _ _
      omega
    by_cases c : i % m = 0
    · rw [if_pos (ei.mpr c)]
      have r0 : r = 0 := by
        rw [Nat.add_mod, c, Nat.zero_add, Nat.mod_mod, Nat.mod_eq_of_lt hr] at h
        exact h
      subst r0
      cases t with
      | zero => simp
      | succ t =>
        rw [List.getElem?_cons_succ, kept_get hm us (i + 1) (m - 1) (by omega) (by
          have : i + 1 + (m - 1) = i + m := by omega
          rw [this, Nat.add_mod_right]; exact c) t]
        have : (t + 1) * m + 0 = (t * m + (m - 1)) + 1 := by rw [Nat.add_mul]; omega
        rw [this, List.getElem?_cons_succ]
    · rw [if_neg fun z => c (ei.mp z)]
      have r0 : r ≠ 0 := fun z => c (by subst z; exact h)
      rw [kept_get hm us (i + 1) (r - 1) (by omega) (by
        have : i + 1 + (r - 1) = i + r := by omega
        rw [this]; exact h) t]
      have : t * m + r = (t * m + (r - 1)) + 1 := by omega
      rw [this, List.getElem?_cons_succ]
theorem kept_stp (us : List U) {m : Int} (hm : 1 ≤ m) : keptL m 0 us = stp us m := by
  apply List.ext_getElem?
  intro t
  rw [stp_get us hm]
  obtain ⟨M, rfl⟩ := Int.eq_ofNat_of_zero_le (show 0 ≤ m by omega)
  rw [kept_get (by omega) us 0 0 (by omega) (by simp) t]
  rfl
/-- the law's own spread, while it is made -/
def spS (ws : List U) (m : Int) (k : Nat) : List U := spreadL (ws.take k ++ List.replicate (ws.length - k) (.int 0)) m
theorem spS_zero (ws : List U) {m : Int} (hm : 1 ≤ m) : spS ws m 0 = List.replicate (ws.length * m.toNat) (.int 0) := by
  unfold spS
  rw [spreadL_N _ hm, List.take_zero, List.nil_append, Nat.sub_zero]
  rw [List.eq_replicate_iff]
  refine ⟨by rw [spN_len _ (by omega), List.length_replicate], fun x hx => ?_⟩
  unfold spN at hx
  obtain ⟨w, hw, hx⟩ := List.mem_flatMap.mp hx
  rw [List.mem_cons] at hx
  rcases hx with rfl | hx
  · exact List.eq_of_mem_replicate hw
  · exact List.eq_of_mem_replicate hx
theorem spS_len (ws : List U) {m : Int} (hm : 1 ≤ m) {k : Nat} (hk : k ≤ ws.length) : (spS ws m k).length = ws.length * m.toNat := by
  unfold spS
  rw [spreadL_N _ hm, spN_len _ (by omega), List.length_append, List.length_take, List.length_replicate]
  congr 1
  omega
theorem spS_end (ws : List U) (m : Int) : spS ws m ws.length = spreadL ws m := by
  unfold spS
  rw [List.take_length, Nat.sub_self, List.replicate_zero, List.append_nil]
theorem spS_succ (ws : List U) {m : Int} (hm : 1 ≤ m) {k : Nat} {w : U} (hk : ws[k]? = some w) : (spS ws m k).set (k * m.toNat) w = spS ws m (k + 1) := by
  have hkl := (List.getElem?_eq_some_iff.mp hk).1
  have hm2 : 1 ≤ m.toNat := by omega
  have hl := spS_len ws hm (Nat.le_of_lt hkl)
  apply List.ext_getElem?
  intro j
  rw [List.getElem?_set, hl]
  unfold spS
  rw [spreadL_N _ hm, spreadL_N _ hm, spN_get hm2, spN_get hm2]
  have g1 : ∀ a, (ws.take k ++ List.replicate (ws.length - k) (U.int 0))[a]? = if a < k then ws[a]? else if a < ws.length then some (.int 0) else none := by
    intro a
    rw [List.getElem?_append, List.length_take, Nat.min_eq_left (by omega), List.getElem?_take, List.getElem?_replicate]
    by_cases c : a < k
    · rw [if_pos c, if_pos c, if_pos c]
    · rw [if_neg c, if_neg c]
      by_cases c2 : a < ws.length
      · rw [if_pos c2, if_pos (by omega)]
      · rw [if_neg c2, if_neg (by omega)]
  have g2 : ∀ a, (ws.take (k + 1) ++ List.replicate (ws.length - (k + 1)) (U.int 0))[a]? = if a < k + 1 then ws[a]? else if a < ws.length then some (.int 0) else none := by
    intro a
    rw [List.getElem?_append, List.length_take, Nat.min_eq_left (by omega), List.getElem?_take, List.getElem?_replicate]
    by_cases c : a < k + 1
    · rw [if_pos c, if_pos c, if_pos c]
    · rw [if_neg c, if_neg c]
      by_cases c2 : a < ws.length
      · rw [if_pos c2, if_pos (by omega)]
      · rw [if_neg c2, if_neg (by omega)]
  have l1 : (ws.take k ++ List.replicate (ws.length - k) (U.int 0)).length = ws.length := by
    rw [List.length_append, List.length_take, List.length_replicate]; omega
  have l2 : (ws.take (k + 1) ++ List.replicate (ws.length - (k + 1)) (U.int 0)).length = ws.length := by
    rw [List.length_append, List.length_take, List.length_replicate]; omega
  rw [g1, g2, l1, l2]
  by_cases c : k * m.toNat = j
  · subst c
    have hlt : k * m.toNat < ws.length * m.toNat := Nat.mul_lt_mul_of_pos_right hkl hm2
    rw [if_pos rfl, if_pos hlt, Nat.mul_mod_left, if_pos rfl, Nat.mul_div_cancel _ (by omega), if_pos (by omega), hk]
  · rw [if_neg c]
    by_cases c2 : j % m.toNat = 0
    · rw [if_pos c2, if_pos c2]
      have hne : j / m.toNat ≠ k := by
        intro z
        apply c
        have := Nat.div_add_mod j m.toNat
        rw [z, c2, Nat.add_zero, Nat.mul_comm] at this
        exact this
      by_cases c3 : j / m.toNat < k
      · rw [if_pos c3, if_pos (show j / m.toNat < k + 1 by omega)]
      · rw [if_neg c3, if_neg (show ¬ j / m.toNat < k + 1 by omega)]
    · rw [if_neg c2, if_neg c2]
/-! ### the bins -/
def binS (f : Int → Int) (up r n : Int) : Int := ((rangeI r up (rlen r n up)).map f).sum
theorem rangeI_last : ∀ (n : Nat) (lo c : Int), rangeI lo c (n + 1) = rangeI lo c n ++ [lo + n * c]
  | 0, lo, c => by simp [rangeI]
  | n + 1, lo, c => by
    have ih := rangeI_last n (lo + c) c
    rw [show rangeI lo c (n + 1 + 1) = lo :: rangeI (lo + c) c (n + 1) from rfl, ih]
    have e : lo + c + (n : Int) * c = lo + ((n + 1 : Nat) : Int) * c := by
      rw [Int.natCast_add, Int.add_mul]; omega
    rw [e]
    rfl
theorem rlen_iff {i : Nat} {lo hi c : Int} (hc : 0 < c) : i < rlen lo hi c ↔ lo + i * c < hi := ⟨rlen_lt hc, lt_rlen hc⟩
theorem rlen_eq {n : Nat} {lo hi c : Int} (hc : 0 < c) (h1 : hi ≤ lo + n * c) (h2 : ∀ i : Nat, i < n → lo + i * c < hi) : rlen lo hi c = n := by
  have a : ¬ n < rlen lo hi c := fun z => by have := rlen_lt hc z; omega
  rcases Nat.eq_zero_or_pos n with z | z
  · omega
  · have b := lt_rlen (i := n - 1) hc (h2 (n - 1) (by omega))
    omega
theorem binS_zero (f : Int → Int) {up r : Int} (hu : 1 ≤ up) (hr : 0 ≤ r) : binS f up r 0 = 0 := by
  unfold binS
  rw [rlen_eq (n := 0) (by omega) (by simpa using hr) (fun i h => absurd h (by omega))]
  rfl
theorem binS_succ (f : Int → Int) {up r k : Int} (hu : 1 ≤ up) (hr : 0 ≤ r) (hr2 : r < up) (hk : 0 ≤ k) : binS f up r (k + 1) = binS f up r k + if k % up = r then f k else 0 := by
  unfold binS
  by_cases c : k % up = r
  · rw [if_pos c]
    obtain ⟨t, ht⟩ := Int.eq_ofNat_of_zero_le (Int.ediv_nonneg hk (show 0 ≤ up by omega))
    have e : k = r + (t : Int) * up := by
      have := Int.mul_ediv_add_emod k up
      rw [ht, c, Int.mul_comm] at this
      omega
    have e1 : rlen r k up = t := rlen_eq (by omega) (by omega) (fun i hi => by
      have : (i : Int) * up < (t : Int) * up := Int.mul_lt_mul_of_pos_right (by omega) (by omega)
      omega)
    have e2 : rlen r (k + 1) up = t + 1 := rlen_eq (by omega) (by
      rw [Int.natCast_add, Int.add_mul]; omega) (fun i hi => by
      have : (i : Int) * up ≤ (t : Int) * up := Int.mul_le_mul_of_nonneg_right (by omega) (by omega)
      omega)
    rw [e1, e2, rangeI_last, List.map_append, List.sum_append, ← e]
    simp
  · rw [if_neg c, Int.add_zero]
    have e1 : rlen r (k + 1) up = rlen r k up := by
      have h : ∀ i : Nat, i < rlen r (k + 1) up ↔ i < rlen r k up := fun i => by
        rw [rlen_iff (by omega), rlen_iff (by omega)]
        have : r + (i : Int) * up ≠ k := fun z => c (by
          rw [← z, Int.add_mul_emod_self_right]
          exact Int.emod_eq_of_lt hr hr2)
        omega
      have a := (not_congr (h (rlen r k up))).mpr (by omega)
      have b := (not_congr (h (rlen r (k + 1) up))).mp (by omega)
      omega
    rw [e1]
theorem binI_S (hs : List Int) (up r : Int) : binI hs up r = binS (fun j => hs.getD j.toNat 0) up r hs.length := rfl
/-! ### settled places -/
theorem sum_mul (l : List Int) (f : Int → Int) (w : Int) : (l.map fun j => f j * w).sum = (l.map f).sum * w := by
  induction l with
  | nil => simp
  | cons a l ih => rw [List.map_cons, List.sum_cons, ih, List.map_cons, List.sum_cons, Int.add_mul]
theorem sum_settled {hs : List Int} {size : Nat} {w place up : Int} (hu : 1 ≤ up) (hp : (hs.length : Int) ≤ place + 1) (hp2 : place < size * up) (hp0 : 0 ≤ place) : sumI (List.replicate size w) hs place up = binI hs up (place % up) * w := by
  have e : jsI hs place up = rangeI (place % up) up (rlen (place % up) hs.length up) := by
    unfold jsI
    rw [Int.min_eq_left hp]
  unfold sumI binI
  rw [← e, ← sum_mul]
  congr 1
  apply List.map_congr_left
  intro j hj
  obtain ⟨j0, j1, j2⟩ := js_bd hp0 hu hj
  unfold tapI
  congr 1
  have d0 : 0 ≤ (place - j) / up := Int.ediv_nonneg (by omega) (by omega)
  have d1 : (place - j) / up < size := Int.ediv_lt_of_lt_mul (by omega) (by omega)
  rw [List.getD_eq_getElem?_getD, List.getElem?_replicate, if_pos (by omega)]
  rfl
def valI (w : Int) (hs : List Int) (up down k : Int) : Int := clipI ((2 * (binI hs up ((down * k) % up) * w) + 4096) / 8192)
theorem res_settled {hs : List Int} {size : Nat} {w k up down : Int} (hu : 1 ≤ up) (hp : (hs.length : Int) ≤ down * k + 1) (hp2 : down * k < size * up) (hp0 : 0 ≤ down * k) : resI (List.replicate size w) hs up (down * k) = valI w hs up down k := by
  unfold resI valI
  rw [sum_settled hu hp hp2 hp0]
theorem due_eq (v : Int) : (if v / 4096 + (if 2048 ≤ v % 4096 then 1 else 0) < -1048575 then -1048575 else if 1048575 < v / 4096 + (if 2048 ≤ v % 4096 then 1 else 0) then 1048575 else v / 4096 + (if 2048 ≤ v % 4096 then 1 else 0)) = clipI ((2 * v + 4096) / 8192) := by
  unfold clipI
  have e : (2 * v + 4096) / 8192 = v / 4096 + (if 2048 ≤ v % 4096 then 1 else 0) := by
    split <;> omega
  rw [e]
  generalize v / 4096 + (if 2048 ≤ v % 4096 then (1 : Int) else 0) = x
  split
  · omega
  · split <;> omega
theorem val_one {w : Int} {hs : List Int} {up down k : Int} (hw : -1048575 ≤ w) (hw2 : w ≤ 1048575) (h : binI hs up ((down * k) % up) = 4096) : valI w hs up down k = w := by
  unfold valI clipI
  rw [h]
  omega
theorem val_ne {hs : List Int} {up down k : Int} (h : binI hs up ((down * k) % up) ≠ 4096) : valI 4096 hs up down k ≠ 4096 := by
  unfold valI clipI
  omega
/-! ### every multiple of the common divisor comes -/
theorem bez (a b : Nat) : ∃ x y : Int, (a : Int) * x + b * y = (Nat.gcd a b : Nat) := by
  induction a, b using Nat.gcd.induction with
  | H0 n => exact ⟨0, 1, by simp⟩
  | H1 m n hm ih =>
    obtain ⟨x, y, h⟩ := ih
    refine ⟨y - (n / m : Nat) * x, x, ?_⟩
    rw [Nat.gcd_rec, ← h]
    have e : (n : Int) = (m : Int) * (n / m : Nat) + (n % m : Nat) := by
      have := Nat.div_add_mod n m
      exact_mod_cast this.symm
    generalize (n / m : Nat) = d at *
    generalize (n % m : Nat) = t at *
    rw [e, Int.mul_sub, Int.add_mul, Int.mul_assoc]
    omega
theorem gcd_facts {up down : Int} (hu : 1 ≤ up) (hd : 1 ≤ down) : 1 ≤ gcdI up down ∧ up = gcdI up down * (up / gcdI up down) ∧ down = gcdI up down * (down / gcdI up down) ∧ ∃ x y : Int, down * x + up * y = gcdI up down := by
  obtain ⟨a, rfl⟩ := Int.eq_ofNat_of_zero_le (show 0 ≤ up by omega)
  obtain ⟨b, rfl⟩ := Int.eq_ofNat_of_zero_le (show 0 ≤ down by omega)
  unfold gcdI
  simp only [Int.toNat_natCast]
  have g0 : 0 < Nat.gcd a b := Nat.gcd_pos_of_pos_left _ (by omega)
  obtain ⟨x, y, h⟩ := bez a b
  refine ⟨by omega, ?_, ?_, y, x, by omega⟩
  · exact (Int.mul_ediv_cancel' (Int.natCast_dvd_natCast.mpr (Nat.gcd_dvd_left a b))).symm
  · exact (Int.mul_ediv_cancel' (Int.natCast_dvd_natCast.mpr (Nat.gcd_dvd_right a b))).symm
/-- the places k behind the first one, a whole turn of them, meet each multiple of the divisor -/
theorem meets {up down first t : Int} (hu : 1 ≤ up) (hd : 1 ≤ down) (ht : 0 ≤ gcdI up down * t) (ht2 : gcdI up down * t < up) : ∃ k : Int, first ≤ k ∧ k < first + up / gcdI up down ∧ down * k % up = gcdI up down * t := by
  obtain ⟨g1, eu, ed, x, y, h⟩ := gcd_facts hu hd
  generalize hg : gcdI up down = g at *
  generalize hU : up / g = U at *
  generalize hD : down / g = D at *
  have U1 : 1 ≤ U := by
    rcases Int.lt_or_le U 1 with z | z
    · have : g * U ≤ g * 0 := Int.mul_le_mul_of_nonneg_left (by omega) (by omega)
      omega
    · exact z
  refine ⟨first + (x * t - first) % U, ?_, ?_, ?_⟩
  · have := Int.emod_nonneg (x * t - first) (show U ≠ 0 by omega)
    omega
  · have := Int.emod_lt_of_pos (x * t - first) (show 0 < U by omega)
    omega
  · generalize hz : (x * t - first) / U = z
    have e1 : (x * t - first) % U = x * t - first - U * z := by
      have := Int.mul_ediv_add_emod (x * t - first) U
      rw [hz] at this
      omega
    have e2 : down * (first + (x * t - first) % U) = g * t + up * (-(y * t) - D * z) := by
      rw [e1]
      have a1 : first + (x * t - first - U * z) = x * t - U * z := by omega
      rw [a1]
      have a2 : down * (U * z) = up * (D * z) := by rw [eu, ed, Int.mul_assoc, Int.mul_assoc, Int.mul_left_comm D U z]
      have a3 : down * (x * t) = g * t - up * (y * t) := by
        have := congrArg (· * t) h
        simp only [Int.add_mul] at this
        rw [← Int.mul_assoc, ← Int.mul_assoc]
        omega
      rw [Int.mul_sub, a2, a3, Int.mul_sub, Int.mul_neg]
      omega
    rw [e2, Int.add_mul_emod_self_left]
    exact Int.emod_eq_of_lt ht ht2
/-- a place of a settled sound is a multiple of the divisor -/
theorem place_mult {up down k : Int} (hu : 1 ≤ up) (hd : 1 ≤ down) : ∃ t : Nat, (down * k) % up = 0 + (t : Int) * gcdI up down ∧ t < rlen 0 up (gcdI up down) := by
  obtain ⟨g1, eu, ed, x, y, h⟩ := gcd_facts hu hd
  have m0 := Int.emod_nonneg (down * k) (show up ≠ 0 by omega)
  have m1 := Int.emod_lt_of_pos (down * k) (show 0 < up by omega)
  generalize hg : gcdI up down = g at *
  have dv : g ∣ (down * k) % up := by
    rw [Int.emod_def]
    refine Int.dvd_sub ?_ ?_
    · rw [ed, Int.mul_assoc]; exact Int.dvd_mul_right _ _
    · have : g ∣ up := by rw [eu]; exact Int.dvd_mul_right _ _
      exact Int.dvd_trans this (Int.dvd_mul_right _ _)
  obtain ⟨c, hc⟩ := dv
  have c0 : 0 ≤ c := by
    rcases Int.lt_or_le c 0 with z | z
    · have : g * c ≤ g * (-1) := Int.mul_le_mul_of_nonneg_left (by omega) (by omega)
      omega
    · exact z
  obtain ⟨t, rfl⟩ := Int.eq_ofNat_of_zero_le c0
  have e : (down * k) % up = 0 + (t : Int) * g := by rw [hc, Int.mul_comm]; omega
  exact ⟨t, e, lt_rlen (by omega) (by omega)⟩
theorem bad_nil {hs : List Int} {up down k : Int} (hu : 1 ≤ up) (hd : 1 ≤ down) (h : badI hs up down = []) : binI hs up ((down * k) % up) = 4096 := by
  obtain ⟨t, e, ht⟩ := place_mult (k := k) hu hd
  unfold badI at h
  rw [List.filter_eq_nil_iff] at h
  have := h _ (mem_rangeI ht)
  rw [← e] at this
  simpa using this
theorem bad_cons {hs : List Int} {up down first : Int} (hu : 1 ≤ up) (hd : 1 ≤ down) (h : badI hs up down ≠ []) : ∃ k : Int, first ≤ k ∧ k < first + up / gcdI up down ∧ binI hs up ((down * k) % up) ≠ 4096 := by
  obtain ⟨r, hr⟩ := List.exists_mem_of_ne_nil _ h
  unfold badI at hr
  rw [List.mem_filter] at hr
  obtain ⟨hr, hb⟩ := hr
  obtain ⟨g1, _⟩ := gcd_facts hu hd
  obtain ⟨i, hi, e⟩ := rangeI_mem hr
  have hlt := rlen_lt (by omega) hi
  have h0 : 0 ≤ (i : Int) * gcdI up down := Int.mul_nonneg (by omega) (by omega)
  obtain ⟨k, k1, k2, k3⟩ := meets (first := first) (t := (i : Int)) hu hd (by rw [Int.mul_comm]; exact h0) (by rw [Int.mul_comm]; omega)
  refine ⟨k, k1, k2, ?_⟩
  rw [k3, Int.mul_comm, show (i : Int) * gcdI up down = r by omega]
  exact of_decide_eq_true hb
end K71
set_option Elab.async false
set_option linter.all false
set_option autoImplicit false
set_option maxRecDepth 100000
set_option maxHeartbeats 4000000
namespace K71
open PySem PySem.Spec L2 UL
/-! ### the purse -/
def sp__law_purse : USp := fun us G Q _ => ∃ ns : List Int, us = [.rol (ns.map U.int)] ∧ ns.length ≤ 63 ∧ ∀ p g G', Pur G' p g → Le G G' → Q (.ref p) G'
def cl__law_purse : List (Str × USp) := []
theorem l__law_purse {G0 : UH} {ns : List Int} {g : Addr} (hn : ns.length ≤ 63) (D : UE) (qn : ∀ (sd : Int) (o o2 : Option U) (gr : List Int) (G : UH), Le G0 G → G g = some (.lst (gr.map U.int)) → D.nx [some (.rol (ns.map U.int)), some (.int sd), some (.ref g), o, o2] G) (hg0 : G0 g = none) :
    ∀ (ks : List Int) (sd : Int) (o o2 : Option U) (gr : List Int) (G : UH), (∀ k ∈ ks, 0 ≤ k ∧ k < ns.length) → gr.length + ks.length ≤ 63 → Le G0 G → G g = some (.lst (gr.map U.int)) →
    forU [] (trG (.nm 3)) (trSs (TB cl__law_purse) (GM cl__law_purse) l1__law_purse) D (List.map U.int ks) [some (.rol (ns.map U.int)), some (.int sd), some (.ref g), o, o2] G
  | [], sd, o, o2, gr, G, _, _, l, hg => ⟨trivial, qn sd o o2 gr G l hg⟩
  | k :: ks, sd, o, o2, gr, G, hk, hl, l, hg => by
    refine ⟨trivial, ?_⟩
    generalize hT : forU _ _ _ D (List.map U.int ks) = T
    obtain ⟨k0, k1⟩ := hk k List.mem_cons_self
    have lg := line_ge
    have hl2 : gr.length + ks.length + 1 ≤ 63 := by simp only [List.length_cons] at hl; omega
    simp only [trSs, trS, trE, trT, trX, pl, trA, trO, trC, trI, uBin_s, uUn_s, uVar_s, uC_s, getS, setS, uOp, uAdd, uSub, uMul, uDiv, uMod, uPow, uNeg, uCmp, uEqF, uLt, uLe, uGt, uGe, uIsF, isNonU, uTru, Blt.fn, uLen, uAbs, uMax2, uMin2, uInt, uIx, startU, gam_fn, gam_gl, tab_xcs, tab_sub, UD_nx, UD_rt, UD_bk, UD_ct, UD_ex, spAt, glAt, gls, seqOf, List.map_cons, List.map_nil, List.cons_append, List.nil_append, List.length_cons, List.length_nil, List.replicate, Nat.reduceAdd, Nat.reduceSub, Nat.zero_add, reduceIte, Bool.false_eq_true, Bool.true_eq_false, Bool.false_bne, Bool.true_bne, Bool.not_true, Bool.not_false, Bool.not_not, List.reverse_cons, List.reverse_nil, Option.map_some, Option.map_none, up_same, uTuple, uList, uSet, atI_zero, atI_one, ixN_20, ixN_zero, List.set_cons_zero, uPow, trG, l1__law_purse, atI_int k0 k1]
    simp only [trSs, trS, trE, trT, trX, pl, trA, trO, trC, trI, uBin_s, uUn_s, uVar_s, uC_s, getS, setS, uOp, uAdd, uSub, uMul, uDiv, uMod, uPow, uNeg, uCmp, uEqF, uLt, uLe, uGt, uGe, uIsF, isNonU, uTru, Blt.fn, uLen, uAbs, uMax2, uMin2, uInt, uIx, startU, gam_fn, gam_gl, tab_xcs, tab_sub, UD_nx, UD_rt, UD_bk, UD_ct, UD_ex, spAt, glAt, gls, seqOf, List.map_cons, List.map_nil, List.cons_append, List.nil_append, List.length_cons, List.length_nil, List.replicate, Nat.reduceAdd, Nat.reduceSub, Nat.zero_add, reduceIte, Bool.false_eq_true, Bool.true_eq_false, Bool.false_bne, Bool.true_bne, Bool.not_true, Bool.not_false, Bool.not_not, List.reverse_cons, List.reverse_nil, Option.map_some, Option.map_none, up_same, uTuple, uList, uSet, atI_zero, atI_one, ixN_20, ixN_zero, List.set_cons_zero, uPow, t2__law_purse]
    have fin1 : ∀ (gr' : List Int) (G1 : UH) (c : Int), gr'.length + ks.length ≤ 63 → Le G0 G1 → G1 g = some (.lst (gr'.map U.int)) → ∀ sd', ∃ G3, Le G3 G1 ∧ T [some (.rol (ns.map U.int)), some (.int sd'), some (.ref g), some (.int k), some (.int c)] G3 := by
      intro gr' G1 c h1 h2 h3 sd'
      subst hT
      exact ⟨G1, .refl _, l__law_purse hn D qn hg0 ks sd' _ _ gr' G1 (fun x hx => hk x (List.mem_cons_of_mem _ hx)) h1 h2 h3⟩
    refine ⟨⟨by decide, by decide, by decide⟩, ?_⟩
    by_cases hc : (10 : Int) ^ (18 : Int).toNat ≤ ((ns.getD k.toNat 0).natAbs : Int)
    · simp only [trSs, trS, trE, trT, trX, pl, trA, trO, trC, trI, uBin_s, uUn_s, uVar_s, uC_s, getS, setS, uOp, uAdd, uSub, uMul, uDiv, uMod, uPow, uNeg, uCmp, uEqF, uLt, uLe, uGt, uGe, uIsF, isNonU, uTru, Blt.fn, uLen, uAbs, uMax2, uMin2, uInt, uIx, startU, gam_fn, gam_gl, tab_xcs, tab_sub, UD_nx, UD_rt, UD_bk, UD_ct, UD_ex, spAt, glAt, gls, seqOf, List.map_cons, List.map_nil, List.cons_append, List.nil_append, List.length_cons, List.length_nil, List.replicate, Nat.reduceAdd, Nat.reduceSub, Nat.zero_add, reduceIte, Bool.false_eq_true, Bool.true_eq_false, Bool.false_bne, Bool.true_bne, Bool.not_true, Bool.not_false, Bool.not_not, List.reverse_cons, List.reverse_nil, Option.map_some, Option.map_none, up_same, uTuple, uList, uSet, atI_zero, atI_one, ixN_20, ixN_zero, List.set_cons_zero, uPow, hc, decide_true, mTy, hg, Mth.T, Mth.fn, uL]
      refine ⟨trivial, mulL (by decide) (by decide), by rw [List.length_map]; omega, ?_⟩
      simp only [trSs, trS, trE, trT, trX, pl, trA, trO, trC, trI, uBin_s, uUn_s, uVar_s, uC_s, getS, setS, uOp, uAdd, uSub, uMul, uDiv, uMod, uPow, uNeg, uCmp, uEqF, uLt, uLe, uGt, uGe, uIsF, isNonU, uTru, Blt.fn, uLen, uAbs, uMax2, uMin2, uInt, uIx, startU, gam_fn, gam_gl, tab_xcs, tab_sub, UD_nx, UD_rt, UD_bk, UD_ct, UD_ex, spAt, glAt, gls, seqOf, List.map_cons, List.map_nil, List.cons_append, List.nil_append, List.length_cons, List.length_nil, List.replicate, Nat.reduceAdd, Nat.reduceSub, Nat.zero_add, reduceIte, Bool.false_eq_true, Bool.true_eq_false, Bool.false_bne, Bool.true_bne, Bool.not_true, Bool.not_false, Bool.not_not, List.reverse_cons, List.reverse_nil, Option.map_some, Option.map_none, up_same, uTuple, uList, uSet, atI_zero, atI_one, ixN_20, ixN_zero, List.set_cons_zero, uPow, t1__law_purse]
      refine ⟨mulR (by decide) (by decide), by omega, mulR (by decide) (by decide), mulL (by decide) (by decide), by omega, ?_⟩
      refine fin1 (gr ++ [2 * ((ns.getD k.toNat 0).natAbs : Int) + if decide (ns.getD k.toNat 0 < 0) = true then 1 else 0]) _ _ (by simp; omega) (fun a o e => ?_) (by rw [up_same, List.map_append]; rfl) _
      rw [up_ne (fun z => by subst z; rw [hg0] at e; cases e)]
      exact l a o e
    · simp only [trSs, trS, trE, trT, trX, pl, trA, trO, trC, trI, uBin_s, uUn_s, uVar_s, uC_s, getS, setS, uOp, uAdd, uSub, uMul, uDiv, uMod, uPow, uNeg, uCmp, uEqF, uLt, uLe, uGt, uGe, uIsF, isNonU, uTru, Blt.fn, uLen, uAbs, uMax2, uMin2, uInt, uIx, startU, gam_fn, gam_gl, tab_xcs, tab_sub, UD_nx, UD_rt, UD_bk, UD_ct, UD_ex, spAt, glAt, gls, seqOf, List.map_cons, List.map_nil, List.cons_append, List.nil_append, List.length_cons, List.length_nil, List.replicate, Nat.reduceAdd, Nat.reduceSub, Nat.zero_add, reduceIte, Bool.false_eq_true, Bool.true_eq_false, Bool.false_bne, Bool.true_bne, Bool.not_true, Bool.not_false, Bool.not_not, List.reverse_cons, List.reverse_nil, Option.map_some, Option.map_none, up_same, uTuple, uList, uSet, atI_zero, atI_one, ixN_20, ixN_zero, List.set_cons_zero, uPow, hc, decide_false, t1__law_purse]
      refine ⟨mulR (by decide) (by decide), by omega, mulR (by decide) (by decide), mulL (by decide) (by decide), by omega, ?_⟩
      exact fin1 gr _ _ (by omega) l hg _
theorem w__law_purse (us : List U) (G : UH) (Q : UK) (E : UXn → UH → Prop) (h : sp__law_purse us G Q E) : trSs (TB cl__law_purse) (GM cl__law_purse) b__law_purse (UD Q E) (startU n__law_purse us) G := by
  obtain ⟨ns, rfl, hn, q⟩ := h
  have lg := line_ge
  simp only [trSs, trS, trE, trT, trX, pl, trA, trO, trC, trI, uBin_s, uUn_s, uVar_s, uC_s, getS, setS, uOp, uAdd, uSub, uMul, uDiv, uMod, uPow, uNeg, uCmp, uEqF, uLt, uLe, uGt, uGe, uIsF, isNonU, uTru, Blt.fn, uLen, uAbs, uMax2, uMin2, uInt, uIx, startU, gam_fn, gam_gl, tab_xcs, tab_sub, UD_nx, UD_rt, UD_bk, UD_ct, UD_ex, spAt, glAt, gls, seqOf, List.map_cons, List.map_nil, List.cons_append, List.nil_append, List.length_cons, List.length_nil, List.replicate, Nat.reduceAdd, Nat.reduceSub, Nat.zero_add, reduceIte, Bool.false_eq_true, Bool.true_eq_false, Bool.false_bne, Bool.true_bne, Bool.not_true, Bool.not_false, Bool.not_not, List.reverse_cons, List.reverse_nil, Option.map_some, Option.map_none, up_same, uTuple, uList, uSet, atI_zero, atI_one, ixN_20, ixN_zero, List.set_cons_zero, uPow, b__law_purse, n__law_purse, trG]
  simp only [trSs, trS, trE, trT, trX, pl, trA, trO, trC, trI, uBin_s, uUn_s, uVar_s, uC_s, getS, setS, uOp, uAdd, uSub, uMul, uDiv, uMod, uPow, uNeg, uCmp, uEqF, uLt, uLe, uGt, uGe, uIsF, isNonU, uTru, Blt.fn, uLen, uAbs, uMax2, uMin2, uInt, uIx, startU, gam_fn, gam_gl, tab_xcs, tab_sub, UD_nx, UD_rt, UD_bk, UD_ct, UD_ex, spAt, glAt, gls, seqOf, List.map_cons, List.map_nil, List.cons_append, List.nil_append, List.length_cons, List.length_nil, List.replicate, Nat.reduceAdd, Nat.reduceSub, Nat.zero_add, reduceIte, Bool.false_eq_true, Bool.true_eq_false, Bool.false_bne, Bool.true_bne, Bool.not_true, Bool.not_false, Bool.not_not, List.reverse_cons, List.reverse_nil, Option.map_some, Option.map_none, up_same, uTuple, uList, uSet, atI_zero, atI_one, ixN_20, ixN_zero, List.set_cons_zero, uPow, t5__law_purse, trG]
  refine ⟨by omega, fun g hg => ?_⟩
  simp only [trSs, trS, trE, trT, trX, pl, trA, trO, trC, trI, uBin_s, uUn_s, uVar_s, uC_s, getS, setS, uOp, uAdd, uSub, uMul, uDiv, uMod, uPow, uNeg, uCmp, uEqF, uLt, uLe, uGt, uGe, uIsF, isNonU, uTru, Blt.fn, uLen, uAbs, uMax2, uMin2, uInt, uIx, startU, gam_fn, gam_gl, tab_xcs, tab_sub, UD_nx, UD_rt, UD_bk, UD_ct, UD_ex, spAt, glAt, gls, seqOf, List.map_cons, List.map_nil, List.cons_append, List.nil_append, List.length_cons, List.length_nil, List.replicate, Nat.reduceAdd, Nat.reduceSub, Nat.zero_add, reduceIte, Bool.false_eq_true, Bool.true_eq_false, Bool.false_bne, Bool.true_bne, Bool.not_true, Bool.not_false, Bool.not_not, List.reverse_cons, List.reverse_nil, Option.map_some, Option.map_none, up_same, uTuple, uList, uSet, atI_zero, atI_one, ixN_20, ixN_zero, List.set_cons_zero, uPow, t4__law_purse, List.length_map]
  refine ⟨by unfold small62; omega, ?_⟩
  rw [rangeU_map]
  refine l__law_purse (G0 := G) (g := g) hn _ (fun sd o o2 gr G1 l h1 => ?_) hg _ _ none none [] _ (fun k hk => ?_) (by rw [rangeI_len]; simp; omega) (.new hg) up_same
  · simp only [trSs, trS, trE, trT, trX, pl, trA, trO, trC, trI, uBin_s, uUn_s, uVar_s, uC_s, getS, setS, uOp, uAdd, uSub, uMul, uDiv, uMod, uPow, uNeg, uCmp, uEqF, uLt, uLe, uGt, uGe, uIsF, isNonU, uTru, Blt.fn, uLen, uAbs, uMax2, uMin2, uInt, uIx, startU, gam_fn, gam_gl, tab_xcs, tab_sub, UD_nx, UD_rt, UD_bk, UD_ct, UD_ex, spAt, glAt, gls, seqOf, List.map_cons, List.map_nil, List.cons_append, List.nil_append, List.length_cons, List.length_nil, List.replicate, Nat.reduceAdd, Nat.reduceSub, Nat.zero_add, reduceIte, Bool.false_eq_true, Bool.true_eq_false, Bool.false_bne, Bool.true_bne, Bool.not_true, Bool.not_false, Bool.not_not, List.reverse_cons, List.reverse_nil, Option.map_some, Option.map_none, up_same, uTuple, uList, uSet, atI_zero, atI_one, ixN_20, ixN_zero, List.set_cons_zero, uPow, t3__law_purse]
    refine ⟨by omega, fun p hp => fin.of ?_⟩
    have n : p ≠ g := fun z => by subst z; rw [hp] at h1; cases h1
    exact q p g _ ⟨n, sd, gr, up_same, by rw [up_ne n.symm]; exact h1⟩ (l.trans (.new hp))
  · obtain ⟨i, hi, e⟩ := rangeI_mem hk
    omega
abbrev sp__law_pick : USp := sp_pick
def cl__law_pick : List (Str × USp) := []
theorem w__law_pick (us : List U) (G : UH) (Q : UK) (E : UXn → UH → Prop) (h : sp__law_pick us G Q E) : trSs (TB cl__law_pick) (GM cl__law_pick) b__law_pick (UD Q E) (startU n__law_pick us) G := by
  obtain ⟨p, g, many, rfl, ⟨hpg, sd, gr, hp, hg⟩, m1, m2, q⟩ := h
  have lg := line_ge
  have rr : ∀ x : Int, 0 ≤ x % many ∧ x % many < many := fun x => ⟨Int.emod_nonneg _ (by omega), Int.emod_lt_of_pos _ m1⟩
  simp only [trSs, trS, trE, trT, trX, pl, trA, trO, trC, trI, uBin_s, uUn_s, uVar_s, uC_s, getS, setS, uOp, uAdd, uSub, uMul, uDiv, uMod, uPow, uNeg, uCmp, uEqF, uLt, uLe, uGt, uGe, uIsF, isNonU, uTru, Blt.fn, uLen, uAbs, uMax2, uMin2, uInt, uIx, startU, gam_fn, gam_gl, tab_xcs, tab_sub, UD_nx, UD_rt, UD_bk, UD_ct, UD_ex, spAt, glAt, gls, seqOf, List.map_cons, List.map_nil, List.cons_append, List.nil_append, List.length_cons, List.length_nil, List.replicate, Nat.reduceAdd, Nat.reduceSub, Nat.zero_add, reduceIte, Bool.false_eq_true, Bool.true_eq_false, Bool.false_bne, Bool.true_bne, Bool.not_true, Bool.not_false, Bool.not_not, List.reverse_cons, List.reverse_nil, Option.map_some, Option.map_none, up_same, uTuple, uList, uSet, atI_zero, atI_one, ixN_20, ixN_zero, List.set_cons_zero, uPow, b__law_pick, n__law_pick, trG, hp]
  simp only [trSs, trS, trE, trT, trX, pl, trA, trO, trC, trI, uBin_s, uUn_s, uVar_s, uC_s, getS, setS, uOp, uAdd, uSub, uMul, uDiv, uMod, uPow, uNeg, uCmp, uEqF, uLt, uLe, uGt, uGe, uIsF, isNonU, uTru, Blt.fn, uLen, uAbs, uMax2, uMin2, uInt, uIx, startU, gam_fn, gam_gl, tab_xcs, tab_sub, UD_nx, UD_rt, UD_bk, UD_ct, UD_ex, spAt, glAt, gls, seqOf, List.map_cons, List.map_nil, List.cons_append, List.nil_append, List.length_cons, List.length_nil, List.replicate, Nat.reduceAdd, Nat.reduceSub, Nat.zero_add, reduceIte, Bool.false_eq_true, Bool.true_eq_false, Bool.false_bne, Bool.true_bne, Bool.not_true, Bool.not_false, Bool.not_not, List.reverse_cons, List.reverse_nil, Option.map_some, Option.map_none, up_same, uTuple, uList, uSet, atI_zero, atI_one, ixN_20, ixN_zero, List.set_cons_zero, uPow, t6__law_pick, hg, List.length_map]
  cases gr with
  | nil =>
    simp only [trSs, trS, trE, trT, trX, pl, trA, trO, trC, trI, uBin_s, uUn_s, uVar_s, uC_s, getS, setS, uOp, uAdd, uSub, uMul, uDiv, uMod, uPow, uNeg, uCmp, uEqF, uLt, uLe, uGt, uGe, uIsF, isNonU, uTru, Blt.fn, uLen, uAbs, uMax2, uMin2, uInt, uIx, startU, gam_fn, gam_gl, tab_xcs, tab_sub, UD_nx, UD_rt, UD_bk, UD_ct, UD_ex, spAt, glAt, gls, seqOf, List.map_cons, List.map_nil, List.cons_append, List.nil_append, List.length_cons, List.length_nil, List.replicate, Nat.reduceAdd, Nat.reduceSub, Nat.zero_add, reduceIte, Bool.false_eq_true, Bool.true_eq_false, Bool.false_bne, Bool.true_bne, Bool.not_true, Bool.not_false, Bool.not_not, List.reverse_cons, List.reverse_nil, Option.map_some, Option.map_none, up_same, uTuple, uList, uSet, atI_zero, atI_one, ixN_20, ixN_zero, List.set_cons_zero, uPow, show decide ((0 : Int) < ((0 : Nat) : Int)) = false from rfl, t5__law_pick, hp]
    refine ⟨mulR (by decide) (by decide), by omega, ?_⟩
    simp only [trSs, trS, trE, trT, trX, pl, trA, trO, trC, trI, uBin_s, uUn_s, uVar_s, uC_s, getS, setS, uOp, uAdd, uSub, uMul, uDiv, uMod, uPow, uNeg, uCmp, uEqF, uLt, uLe, uGt, uGe, uIsF, isNonU, uTru, Blt.fn, uLen, uAbs, uMax2, uMin2, uInt, uIx, startU, gam_fn, gam_gl, tab_xcs, tab_sub, UD_nx, UD_rt, UD_bk, UD_ct, UD_ex, spAt, glAt, gls, seqOf, List.map_cons, List.map_nil, List.cons_append, List.nil_append, List.length_cons, List.length_nil, List.replicate, Nat.reduceAdd, Nat.reduceSub, Nat.zero_add, reduceIte, Bool.false_eq_true, Bool.true_eq_false, Bool.false_bne, Bool.true_bne, Bool.not_true, Bool.not_false, Bool.not_not, List.reverse_cons, List.reverse_nil, Option.map_some, Option.map_none, up_same, uTuple, uList, uSet, atI_zero, atI_one, ixN_20, ixN_zero, List.set_cons_zero, uPow, t4__law_pick]
    refine ⟨divS (by decide) (by decide), mulR (by decide) (by decide), by omega, m1, fin.of ?_⟩
    exact q _ _ (rr _).1 (rr _).2 ⟨hpg, _, [], up_same, by rw [up_ne hpg.symm]; exact hg⟩ Fr.up1
  | cons c t =>
    have hlt : decide ((0 : Int) < ((t.length + 1 : Nat) : Int)) = true := decide_eq_true (by omega)
    have hg' : G g = some (.lst (U.int c :: t.map U.int)) := hg
    simp only [trSs, trS, trE, trT, trX, pl, trA, trO, trC, trI, uBin_s, uUn_s, uVar_s, uC_s, getS, setS, uOp, uAdd, uSub, uMul, uDiv, uMod, uPow, uNeg, uCmp, uEqF, uLt, uLe, uGt, uGe, uIsF, isNonU, uTru, Blt.fn, uLen, uAbs, uMax2, uMin2, uInt, uIx, startU, gam_fn, gam_gl, tab_xcs, tab_sub, UD_nx, UD_rt, UD_bk, UD_ct, UD_ex, spAt, glAt, gls, seqOf, List.map_cons, List.map_nil, List.cons_append, List.nil_append, List.length_cons, List.length_nil, List.replicate, Nat.reduceAdd, Nat.reduceSub, Nat.zero_add, reduceIte, Bool.false_eq_true, Bool.true_eq_false, Bool.false_bne, Bool.true_bne, Bool.not_true, Bool.not_false, Bool.not_not, List.reverse_cons, List.reverse_nil, Option.map_some, Option.map_none, up_same, uTuple, uList, uSet, atI_zero, atI_one, ixN_20, ixN_zero, List.set_cons_zero, uPow, hlt, trG, hg', t3__law_pick]
    refine ⟨divS m1 m2, ?_⟩
    simp only [trSs, trS, trE, trT, trX, pl, trA, trO, trC, trI, uBin_s, uUn_s, uVar_s, uC_s, getS, setS, uOp, uAdd, uSub, uMul, uDiv, uMod, uPow, uNeg, uCmp, uEqF, uLt, uLe, uGt, uGe, uIsF, isNonU, uTru, Blt.fn, uLen, uAbs, uMax2, uMin2, uInt, uIx, startU, gam_fn, gam_gl, tab_xcs, tab_sub, UD_nx, UD_rt, UD_bk, UD_ct, UD_ex, spAt, glAt, gls, seqOf, List.map_cons, List.map_nil, List.cons_append, List.nil_append, List.length_cons, List.length_nil, List.replicate, Nat.reduceAdd, Nat.reduceSub, Nat.zero_add, reduceIte, Bool.false_eq_true, Bool.true_eq_false, Bool.false_bne, Bool.true_bne, Bool.not_true, Bool.not_false, Bool.not_not, List.reverse_cons, List.reverse_nil, Option.map_some, Option.map_none, up_same, uTuple, uList, uSet, atI_zero, atI_one, ixN_20, ixN_zero, List.set_cons_zero, uPow, t2__law_pick]
    by_cases h0 : c / many = 0
    · simp only [trSs, trS, trE, trT, trX, pl, trA, trO, trC, trI, uBin_s, uUn_s, uVar_s, uC_s, getS, setS, uOp, uAdd, uSub, uMul, uDiv, uMod, uPow, uNeg, uCmp, uEqF, uLt, uLe, uGt, uGe, uIsF, isNonU, uTru, Blt.fn, uLen, uAbs, uMax2, uMin2, uInt, uIx, startU, gam_fn, gam_gl, tab_xcs, tab_sub, UD_nx, UD_rt, UD_bk, UD_ct, UD_ex, spAt, glAt, gls, seqOf, List.map_cons, List.map_nil, List.cons_append, List.nil_append, List.length_cons, List.length_nil, List.replicate, Nat.reduceAdd, Nat.reduceSub, Nat.zero_add, reduceIte, Bool.false_eq_true, Bool.true_eq_false, Bool.false_bne, Bool.true_bne, Bool.not_true, Bool.not_false, Bool.not_not, List.reverse_cons, List.reverse_nil, Option.map_some, Option.map_none, up_same, uTuple, uList, uSet, atI_zero, atI_one, ixN_20, ixN_zero, List.set_cons_zero, uPow, h0, decide_true, mTy, Mth.T, Mth.fn, uL]
      refine ⟨trivial, by decide, by decide, ?_⟩
      simp only [trSs, trS, trE, trT, trX, pl, trA, trO, trC, trI, uBin_s, uUn_s, uVar_s, uC_s, getS, setS, uOp, uAdd, uSub, uMul, uDiv, uMod, uPow, uNeg, uCmp, uEqF, uLt, uLe, uGt, uGe, uIsF, isNonU, uTru, Blt.fn, uLen, uAbs, uMax2, uMin2, uInt, uIx, startU, gam_fn, gam_gl, tab_xcs, tab_sub, UD_nx, UD_rt, UD_bk, UD_ct, UD_ex, spAt, glAt, gls, seqOf, List.map_cons, List.map_nil, List.cons_append, List.nil_append, List.length_cons, List.length_nil, List.replicate, Nat.reduceAdd, Nat.reduceSub, Nat.zero_add, reduceIte, Bool.false_eq_true, Bool.true_eq_false, Bool.false_bne, Bool.true_bne, Bool.not_true, Bool.not_false, Bool.not_not, List.reverse_cons, List.reverse_nil, Option.map_some, Option.map_none, up_same, uTuple, uList, uSet, atI_zero, atI_one, ixN_20, ixN_zero, List.set_cons_zero, uPow, List.getElem?_cons_zero, t1__law_pick, List.eraseIdx_cons_zero]
      refine ⟨m1, fin.of ?_⟩
      refine q _ _ (rr _).1 (rr _).2 ⟨hpg, sd, t, ?_, ?_⟩ ?_
      · rw [up_ne hpg, up_ne hpg]; exact hp
      · rw [up_same]
      · exact Fr.up2.trans Fr.up2
    · simp only [trSs, trS, trE, trT, trX, pl, trA, trO, trC, trI, uBin_s, uUn_s, uVar_s, uC_s, getS, setS, uOp, uAdd, uSub, uMul, uDiv, uMod, uPow, uNeg, uCmp, uEqF, uLt, uLe, uGt, uGe, uIsF, isNonU, uTru, Blt.fn, uLen, uAbs, uMax2, uMin2, uInt, uIx, startU, gam_fn, gam_gl, tab_xcs, tab_sub, UD_nx, UD_rt, UD_bk, UD_ct, UD_ex, spAt, glAt, gls, seqOf, List.map_cons, List.map_nil, List.cons_append, List.nil_append, List.length_cons, List.length_nil, List.replicate, Nat.reduceAdd, Nat.reduceSub, Nat.zero_add, reduceIte, Bool.false_eq_true, Bool.true_eq_false, Bool.false_bne, Bool.true_bne, Bool.not_true, Bool.not_false, Bool.not_not, List.reverse_cons, List.reverse_nil, Option.map_some, Option.map_none, up_same, uTuple, uList, uSet, atI_zero, atI_one, ixN_20, ixN_zero, List.set_cons_zero, uPow, h0, decide_false, t1__law_pick]
      refine ⟨m1, fin.of ?_⟩
      exact q _ _ (rr _).1 (rr _).2 ⟨hpg, sd, (c / many) :: t, by rw [up_ne hpg]; exact hp, up_same⟩ Fr.up2
/-! ### _law_worth -/
def sp__law_worth : USp := fun us G Q _ => ∃ p g, us = [.ref p] ∧ Pur G p g ∧ ∀ r G', -1048575 ≤ r → r ≤ 1048575 → Pur G' p g → Fr p g G G' → Q (.int r) G'
def cl__law_worth : List (Str × USp) := [("_law_pick", sp__law_pick)]
theorem w__law_worth (us : List U) (G : UH) (Q : UK) (E : UXn → UH → Prop) (h : sp__law_worth us G Q E) : trSs (TB cl__law_worth) (GM cl__law_worth) b__law_worth (UD Q E) (startU n__law_worth us) G := by
  obtain ⟨p, g, rfl, hP, q⟩ := h
  simp only [trSs, trS, trE, trT, trX, pl, trA, trO, trC, trI, uBin_s, uUn_s, uVar_s, uC_s, getS, setS, uOp, uAdd, uSub, uMul, uDiv, uMod, uPow, uNeg, uCmp, uEqF, uLt, uLe, uGt, uGe, uIsF, isNonU, uTru, Blt.fn, uLen, uAbs, uMax2, uMin2, uInt, uIx, startU, gam_fn, gam_gl, tab_xcs, tab_sub, UD_nx, UD_rt, UD_bk, UD_ct, UD_ex, spAt, glAt, gls, seqOf, List.map_cons, List.map_nil, List.cons_append, List.nil_append, List.length_cons, List.length_nil, List.replicate, Nat.reduceAdd, Nat.reduceSub, Nat.zero_add, reduceIte, Bool.false_eq_true, Bool.true_eq_false, Bool.false_bne, Bool.true_bne, Bool.not_true, Bool.not_false, Bool.not_not, List.reverse_cons, List.reverse_nil, Option.map_some, Option.map_none, up_same, uTuple, uList, uSet, atI_zero, atI_one, ixN_20, ixN_zero, List.set_cons_zero, uPow, b__law_worth, n__law_worth, cl__law_worth, trG]
  refine ⟨p, g, 6, rfl, hP, by decide, by decide, fun r G1 r0 r1 hP1 f1 => ?_⟩
  simp only [trSs, trS, trE, trT, trX, pl, trA, trO, trC, trI, uBin_s, uUn_s, uVar_s, uC_s, getS, setS, uOp, uAdd, uSub, uMul, uDiv, uMod, uPow, uNeg, uCmp, uEqF, uLt, uLe, uGt, uGe, uIsF, isNonU, uTru, Blt.fn, uLen, uAbs, uMax2, uMin2, uInt, uIx, startU, gam_fn, gam_gl, tab_xcs, tab_sub, UD_nx, UD_rt, UD_bk, UD_ct, UD_ex, spAt, glAt, gls, seqOf, List.map_cons, List.map_nil, List.cons_append, List.nil_append, List.length_cons, List.length_nil, List.replicate, Nat.reduceAdd, Nat.reduceSub, Nat.zero_add, reduceIte, Bool.false_eq_true, Bool.true_eq_false, Bool.false_bne, Bool.true_bne, Bool.not_true, Bool.not_false, Bool.not_not, List.reverse_cons, List.reverse_nil, Option.map_some, Option.map_none, up_same, uTuple, uList, uSet, atI_zero, atI_one, ixN_20, ixN_zero, List.set_cons_zero, uPow, t4__law_worth]
  by_cases h0 : r = 0
  · simp only [trSs, trS, trE, trT, trX, pl, trA, trO, trC, trI, uBin_s, uUn_s, uVar_s, uC_s, getS, setS, uOp, uAdd, uSub, uMul, uDiv, uMod, uPow, uNeg, uCmp, uEqF, uLt, uLe, uGt, uGe, uIsF, isNonU, uTru, Blt.fn, uLen, uAbs, uMax2, uMin2, uInt, uIx, startU, gam_fn, gam_gl, tab_xcs, tab_sub, UD_nx, UD_rt, UD_bk, UD_ct, UD_ex, spAt, glAt, gls, seqOf, List.map_cons, List.map_nil, List.cons_append, List.nil_append, List.length_cons, List.length_nil, List.replicate, Nat.reduceAdd, Nat.reduceSub, Nat.zero_add, reduceIte, Bool.false_eq_true, Bool.true_eq_false, Bool.false_bne, Bool.true_bne, Bool.not_true, Bool.not_false, Bool.not_not, List.reverse_cons, List.reverse_nil, Option.map_some, Option.map_none, up_same, uTuple, uList, uSet, atI_zero, atI_one, ixN_20, ixN_zero, List.set_cons_zero, uPow, h0, decide_true]
    exact fin.of (q _ _ (by decide) (by decide) hP1 f1)
  · simp only [trSs, trS, trE, trT, trX, pl, trA, trO, trC, trI, uBin_s, uUn_s, uVar_s, uC_s, getS, setS, uOp, uAdd, uSub, uMul, uDiv, uMod, uPow, uNeg, uCmp, uEqF, uLt, uLe, uGt, uGe, uIsF, isNonU, uTru, Blt.fn, uLen, uAbs, uMax2, uMin2, uInt, uIx, startU, gam_fn, gam_gl, tab_xcs, tab_sub, UD_nx, UD_rt, UD_bk, UD_ct, UD_ex, spAt, glAt, gls, seqOf, List.map_cons, List.map_nil, List.cons_append, List.nil_append, List.length_cons, List.length_nil, List.replicate, Nat.reduceAdd, Nat.reduceSub, Nat.zero_add, reduceIte, Bool.false_eq_true, Bool.true_eq_false, Bool.false_bne, Bool.true_bne, Bool.not_true, Bool.not_false, Bool.not_not, List.reverse_cons, List.reverse_nil, Option.map_some, Option.map_none, up_same, uTuple, uList, uSet, atI_zero, atI_one, ixN_20, ixN_zero, List.set_cons_zero, uPow, h0, decide_false, t3__law_worth]
    by_cases h1 : r = 1
    · simp only [trSs, trS, trE, trT, trX, pl, trA, trO, trC, trI, uBin_s, uUn_s, uVar_s, uC_s, getS, setS, uOp, uAdd, uSub, uMul, uDiv, uMod, uPow, uNeg, uCmp, uEqF, uLt, uLe, uGt, uGe, uIsF, isNonU, uTru, Blt.fn, uLen, uAbs, uMax2, uMin2, uInt, uIx, startU, gam_fn, gam_gl, tab_xcs, tab_sub, UD_nx, UD_rt, UD_bk, UD_ct, UD_ex, spAt, glAt, gls, seqOf, List.map_cons, List.map_nil, List.cons_append, List.nil_append, List.length_cons, List.length_nil, List.replicate, Nat.reduceAdd, Nat.reduceSub, Nat.zero_add, reduceIte, Bool.false_eq_true, Bool.true_eq_false, Bool.false_bne, Bool.true_bne, Bool.not_true, Bool.not_false, Bool.not_not, List.reverse_cons, List.reverse_nil, Option.map_some, Option.map_none, up_same, uTuple, uList, uSet, atI_zero, atI_one, ixN_20, ixN_zero, List.set_cons_zero, uPow, h1, decide_true]
      exact fin.of (q _ _ (by decide) (by decide) hP1 f1)
    · simp only [trSs, trS, trE, trT, trX, pl, trA, trO, trC, trI, uBin_s, uUn_s, uVar_s, uC_s, getS, setS, uOp, uAdd, uSub, uMul, uDiv, uMod, uPow, uNeg, uCmp, uEqF, uLt, uLe, uGt, uGe, uIsF, isNonU, uTru, Blt.fn, uLen, uAbs, uMax2, uMin2, uInt, uIx, startU, gam_fn, gam_gl, tab_xcs, tab_sub, UD_nx, UD_rt, UD_bk, UD_ct, UD_ex, spAt, glAt, gls, seqOf, List.map_cons, List.map_nil, List.cons_append, List.nil_append, List.length_cons, List.length_nil, List.replicate, Nat.reduceAdd, Nat.reduceSub, Nat.zero_add, reduceIte, Bool.false_eq_true, Bool.true_eq_false, Bool.false_bne, Bool.true_bne, Bool.not_true, Bool.not_false, Bool.not_not, List.reverse_cons, List.reverse_nil, Option.map_some, Option.map_none, up_same, uTuple, uList, uSet, atI_zero, atI_one, ixN_20, ixN_zero, List.set_cons_zero, uPow, h1, decide_false, t2__law_worth, cl__law_worth]
      by_cases h2 : r < 4
      · simp only [trSs, trS, trE, trT, trX, pl, trA, trO, trC, trI, uBin_s, uUn_s, uVar_s, uC_s, getS, setS, uOp, uAdd, uSub, uMul, uDiv, uMod, uPow, uNeg, uCmp, uEqF, uLt, uLe, uGt, uGe, uIsF, isNonU, uTru, Blt.fn, uLen, uAbs, uMax2, uMin2, uInt, uIx, startU, gam_fn, gam_gl, tab_xcs, tab_sub, UD_nx, UD_rt, UD_bk, UD_ct, UD_ex, spAt, glAt, gls, seqOf, List.map_cons, List.map_nil, List.cons_append, List.nil_append, List.length_cons, List.length_nil, List.replicate, Nat.reduceAdd, Nat.reduceSub, Nat.zero_add, reduceIte, Bool.false_eq_true, Bool.true_eq_false, Bool.false_bne, Bool.true_bne, Bool.not_true, Bool.not_false, Bool.not_not, List.reverse_cons, List.reverse_nil, Option.map_some, Option.map_none, up_same, uTuple, uList, uSet, atI_zero, atI_one, ixN_20, ixN_zero, List.set_cons_zero, uPow, h2, decide_true]
        refine ⟨p, g, 9, rfl, hP1, by decide, by decide, fun r2 G2 a b hP2 f2 => ?_⟩
        exact fin.of (q _ _ (by omega) (by omega) hP2 (f1.trans f2))
      · simp only [trSs, trS, trE, trT, trX, pl, trA, trO, trC, trI, uBin_s, uUn_s, uVar_s, uC_s, getS, setS, uOp, uAdd, uSub, uMul, uDiv, uMod, uPow, uNeg, uCmp, uEqF, uLt, uLe, uGt, uGe, uIsF, isNonU, uTru, Blt.fn, uLen, uAbs, uMax2, uMin2, uInt, uIx, startU, gam_fn, gam_gl, tab_xcs, tab_sub, UD_nx, UD_rt, UD_bk, UD_ct, UD_ex, spAt, glAt, gls, seqOf, List.map_cons, List.map_nil, List.cons_append, List.nil_append, List.length_cons, List.length_nil, List.replicate, Nat.reduceAdd, Nat.reduceSub, Nat.zero_add, reduceIte, Bool.false_eq_true, Bool.true_eq_false, Bool.false_bne, Bool.true_bne, Bool.not_true, Bool.not_false, Bool.not_not, List.reverse_cons, List.reverse_nil, Option.map_some, Option.map_none, up_same, uTuple, uList, uSet, atI_zero, atI_one, ixN_20, ixN_zero, List.set_cons_zero, uPow, h2, decide_false, t1__law_worth, cl__law_worth]
        refine ⟨p, g, 2097151, rfl, hP1, by decide, by decide, fun r2 G2 a b hP2 f2 => ?_⟩
        exact fin.of (q _ _ (by omega) (by omega) hP2 (f1.trans f2))
/-! ### _law_common -/
def sp__law_common : USp := fun us G Q _ => ∃ a b : Int, us = [.int a, .int b] ∧ 1 ≤ a ∧ a ≤ 64 ∧ 1 ≤ b ∧ Q (.int (gcdI a b)) G
def cl__law_common : List (Str × USp) := []
def ComI (a b m best : Int) : Prop := 1 ≤ best ∧ a % best = 0 ∧ b % best = 0 ∧ ∀ d : Int, 1 ≤ d → d ≤ m → a % d = 0 → b % d = 0 → d ≤ best
theorem com_end {a b best : Int} (ha : 1 ≤ a) (hb : 1 ≤ b) (h : ComI a b a best) : best = gcdI a b := by
  obtain ⟨h1, h2, h3, h4⟩ := h
  obtain ⟨n, rfl⟩ := Int.eq_ofNat_of_zero_le (show 0 ≤ a by omega)
  obtain ⟨m, rfl⟩ := Int.eq_ofNat_of_zero_le (show 0 ≤ b by omega)
  obtain ⟨k, rfl⟩ := Int.eq_ofNat_of_zero_le (show 0 ≤ best by omega)
  unfold gcdI
  simp only [Int.toNat_natCast]
  have d1 : k ∣ n := Nat.dvd_of_mod_eq_zero (by exact_mod_cast h2)
  have d2 : k ∣ m := Nat.dvd_of_mod_eq_zero (by exact_mod_cast h3)
  have d3 : k ∣ Nat.gcd n m := Nat.dvd_gcd d1 d2
  have g0 : 0 < Nat.gcd n m := Nat.gcd_pos_of_pos_left _ (by omega)
  have l1 : k ≤ Nat.gcd n m := Nat.le_of_dvd g0 d3
  have l2 : Nat.gcd n m ≤ n := Nat.gcd_le_left _ (by omega)
  have l3 := h4 (Nat.gcd n m : Nat) (by omega) (by omega) (by exact_mod_cast Nat.mod_eq_zero_of_dvd (Nat.gcd_dvd_left n m)) (by exact_mod_cast Nat.mod_eq_zero_of_dvd (Nat.gcd_dvd_right n m))
  omega
theorem l__law_common {G : UH} {a b : Int} (D : UE) : ∀ (n : Nat) (lo best : Int) (o : Option U), 2 ≤ lo → ComI a b (lo - 1) best → (∀ best o, ComI a b (lo - 1 + n) best → D.nx [some (.int a), some (.int b), some (.int best), o] G) →
    forU [] (trG (.nm 3)) (trSs (TB cl__law_common) (GM cl__law_common) l1__law_common) D (List.map U.int (rangeI lo 1 n)) [some (.int a), some (.int b), some (.int best), o] G
  | 0, lo, best, o, _, hc, q => ⟨trivial, q best o (by simpa using hc)⟩
  | n + 1, lo, best, o, hl, hc, q => by
    have q' : ∀ best o, ComI a b (lo + 1 - 1 + n) best → D.nx [some (.int a), some (.int b), some (.int best), o] G := fun best o h => q best o (by
      have e : lo - 1 + ((n + 1 : Nat) : Int) = lo + 1 - 1 + n := by omega
      rw [e]; exact h)
    refine ⟨trivial, ?_⟩
    generalize hT : forU _ _ _ D (List.map U.int (rangeI (lo + 1) 1 n)) = T
    have go : ∀ best', ComI a b (lo + 1 - 1) best' → ∃ G3, Le G3 G ∧ T [some (.int a), some (.int b), some (.int best'), some (.int lo)] G3 := by
      intro best' hc'
      subst hT
      exact ⟨G, .refl G, l__law_common D n (lo + 1) best' _ (by omega) hc' q'⟩
    have old : ¬ (a % lo = 0 ∧ b % lo = 0) → ComI a b (lo + 1 - 1) best := fun hn => ⟨hc.1, hc.2.1, hc.2.2.1, fun d d1 d2 d3 d4 => by
      by_cases e : d = lo
      · subst e; exact absurd ⟨d3, d4⟩ hn
      · exact hc.2.2.2 d d1 (by omega) d3 d4⟩
    simp only [trSs, trS, trE, trT, trX, pl, trA, trO, trC, trI, uBin_s, uUn_s, uVar_s, uC_s, getS, setS, uOp, uAdd, uSub, uMul, uDiv, uMod, uPow, uNeg, uCmp, uEqF, uLt, uLe, uGt, uGe, uIsF, isNonU, uTru, Blt.fn, uLen, uAbs, uMax2, uMin2, uInt, uIx, startU, gam_fn, gam_gl, tab_xcs, tab_sub, UD_nx, UD_rt, UD_bk, UD_ct, UD_ex, spAt, glAt, gls, seqOf, List.map_cons, List.map_nil, List.cons_append, List.nil_append, List.length_cons, List.length_nil, List.replicate, Nat.reduceAdd, Nat.reduceSub, Nat.zero_add, reduceIte, Bool.false_eq_true, Bool.true_eq_false, Bool.false_bne, Bool.true_bne, Bool.not_true, Bool.not_false, Bool.not_not, List.reverse_cons, List.reverse_nil, Option.map_some, Option.map_none, up_same, uTuple, uList, uSet, atI_zero, atI_one, ixN_20, ixN_zero, List.set_cons_zero, uPow, trG, l1__law_common]
    refine ⟨by omega, ?_⟩
    by_cases h1 : a % lo = 0
    · simp only [trSs, trS, trE, trT, trX, pl, trA, trO, trC, trI, uBin_s, uUn_s, uVar_s, uC_s, getS, setS, uOp, uAdd, uSub, uMul, uDiv, uMod, uPow, uNeg, uCmp, uEqF, uLt, uLe, uGt, uGe, uIsF, isNonU, uTru, Blt.fn, uLen, uAbs, uMax2, uMin2, uInt, uIx, startU, gam_fn, gam_gl, tab_xcs, tab_sub, UD_nx, UD_rt, UD_bk, UD_ct, UD_ex, spAt, glAt, gls, seqOf, List.map_cons, List.map_nil, List.cons_append, List.nil_append, List.length_cons, List.length_nil, List.replicate, Nat.reduceAdd, Nat.reduceSub, Nat.zero_add, reduceIte, Bool.false_eq_true, Bool.true_eq_false, Bool.false_bne, Bool.true_bne, Bool.not_true, Bool.not_false, Bool.not_not, List.reverse_cons, List.reverse_nil, Option.map_some, Option.map_none, up_same, uTuple, uList, uSet, atI_zero, atI_one, ixN_20, ixN_zero, List.set_cons_zero, uPow, h1, decide_true]
      refine ⟨by omega, ?_⟩
      by_cases h2 : b % lo = 0
      · simp only [trSs, trS, trE, trT, trX, pl, trA, trO, trC, trI, uBin_s, uUn_s, uVar_s, uC_s, getS, setS, uOp, uAdd, uSub, uMul, uDiv, uMod, uPow, uNeg, uCmp, uEqF, uLt, uLe, uGt, uGe, uIsF, isNonU, uTru, Blt.fn, uLen, uAbs, uMax2, uMin2, uInt, uIx, startU, gam_fn, gam_gl, tab_xcs, tab_sub, UD_nx, UD_rt, UD_bk, UD_ct, UD_ex, spAt, glAt, gls, seqOf, List.map_cons, List.map_nil, List.cons_append, List.nil_append, List.length_cons, List.length_nil, List.replicate, Nat.reduceAdd, Nat.reduceSub, Nat.zero_add, reduceIte, Bool.false_eq_true, Bool.true_eq_false, Bool.false_bne, Bool.true_bne, Bool.not_true, Bool.not_false, Bool.not_not, List.reverse_cons, List.reverse_nil, Option.map_some, Option.map_none, up_same, uTuple, uList, uSet, atI_zero, atI_one, ixN_20, ixN_zero, List.set_cons_zero, uPow, h2, decide_true]
        refine go lo ⟨by omega, h1, h2, fun d _ d2 _ _ => by omega⟩
      · simp only [trSs, trS, trE, trT, trX, pl, trA, trO, trC, trI, uBin_s, uUn_s, uVar_s, uC_s, getS, setS, uOp, uAdd, uSub, uMul, uDiv, uMod, uPow, uNeg, uCmp, uEqF, uLt, uLe, uGt, uGe, uIsF, isNonU, uTru, Blt.fn, uLen, uAbs, uMax2, uMin2, uInt, uIx, startU, gam_fn, gam_gl, tab_xcs, tab_sub, UD_nx, UD_rt, UD_bk, UD_ct, UD_ex, spAt, glAt, gls, seqOf, List.map_cons, List.map_nil, List.cons_append, List.nil_append, List.length_cons, List.length_nil, List.replicate, Nat.reduceAdd, Nat.reduceSub, Nat.zero_add, reduceIte, Bool.false_eq_true, Bool.true_eq_false, Bool.false_bne, Bool.true_bne, Bool.not_true, Bool.not_false, Bool.not_not, List.reverse_cons, List.reverse_nil, Option.map_some, Option.map_none, up_same, uTuple, uList, uSet, atI_zero, atI_one, ixN_20, ixN_zero, List.set_cons_zero, uPow, h2, decide_false]
        exact go best (old fun z => h2 z.2)
    · simp only [trSs, trS, trE, trT, trX, pl, trA, trO, trC, trI, uBin_s, uUn_s, uVar_s, uC_s, getS, setS, uOp, uAdd, uSub, uMul, uDiv, uMod, uPow, uNeg, uCmp, uEqF, uLt, uLe, uGt, uGe, uIsF, isNonU, uTru, Blt.fn, uLen, uAbs, uMax2, uMin2, uInt, uIx, startU, gam_fn, gam_gl, tab_xcs, tab_sub, UD_nx, UD_rt, UD_bk, UD_ct, UD_ex, spAt, glAt, gls, seqOf, List.map_cons, List.map_nil, List.cons_append, List.nil_append, List.length_cons, List.length_nil, List.replicate, Nat.reduceAdd, Nat.reduceSub, Nat.zero_add, reduceIte, Bool.false_eq_true, Bool.true_eq_false, Bool.false_bne, Bool.true_bne, Bool.not_true, Bool.not_false, Bool.not_not, List.reverse_cons, List.reverse_nil, Option.map_some, Option.map_none, up_same, uTuple, uList, uSet, atI_zero, atI_one, ixN_20, ixN_zero, List.set_cons_zero, uPow, h1, decide_false]
      exact go best (old fun z => h1 z.1)
theorem w__law_common (us : List U) (G : UH) (Q : UK) (E : UXn → UH → Prop) (h : sp__law_common us G Q E) : trSs (TB cl__law_common) (GM cl__law_common) b__law_common (UD Q E) (startU n__law_common us) G := by
  obtain ⟨a, b, rfl, h1, h2, h3, q⟩ := h
  simp only [trSs, trS, trE, trT, trX, pl, trA, trO, trC, trI, uBin_s, uUn_s, uVar_s, uC_s, getS, setS, uOp, uAdd, uSub, uMul, uDiv, uMod, uPow, uNeg, uCmp, uEqF, uLt, uLe, uGt, uGe, uIsF, isNonU, uTru, Blt.fn, uLen, uAbs, uMax2, uMin2, uInt, uIx, startU, gam_fn, gam_gl, tab_xcs, tab_sub, UD_nx, UD_rt, UD_bk, UD_ct, UD_ex, spAt, glAt, gls, seqOf, List.map_cons, List.map_nil, List.cons_append, List.nil_append, List.length_cons, List.length_nil, List.replicate, Nat.reduceAdd, Nat.reduceSub, Nat.zero_add, reduceIte, Bool.false_eq_true, Bool.true_eq_false, Bool.false_bne, Bool.true_bne, Bool.not_true, Bool.not_false, Bool.not_not, List.reverse_cons, List.reverse_nil, Option.map_some, Option.map_none, up_same, uTuple, uList, uSet, atI_zero, atI_one, ixN_20, ixN_zero, List.set_cons_zero, uPow, b__law_common, n__law_common, trG]
  simp only [trSs, trS, trE, trT, trX, pl, trA, trO, trC, trI, uBin_s, uUn_s, uVar_s, uC_s, getS, setS, uOp, uAdd, uSub, uMul, uDiv, uMod, uPow, uNeg, uCmp, uEqF, uLt, uLe, uGt, uGe, uIsF, isNonU, uTru, Blt.fn, uLen, uAbs, uMax2, uMin2, uInt, uIx, startU, gam_fn, gam_gl, tab_xcs, tab_sub, UD_nx, UD_rt, UD_bk, UD_ct, UD_ex, spAt, glAt, gls, seqOf, List.map_cons, List.map_nil, List.cons_append, List.nil_append, List.length_cons, List.length_nil, List.replicate, Nat.reduceAdd, Nat.reduceSub, Nat.zero_add, reduceIte, Bool.false_eq_true, Bool.true_eq_false, Bool.false_bne, Bool.true_bne, Bool.not_true, Bool.not_false, Bool.not_not, List.reverse_cons, List.reverse_nil, Option.map_some, Option.map_none, up_same, uTuple, uList, uSet, atI_zero, atI_one, ixN_20, ixN_zero, List.set_cons_zero, uPow, t2__law_common]
  refine ⟨by unfold small62; omega, by unfold small62; omega, ?_⟩
  rw [rangeU_map]
  refine l__law_common _ _ 2 1 none (by decide) ⟨by decide, Int.emod_one _, Int.emod_one _, fun d _ d2 _ _ => d2⟩ fun best o hc => ?_
  simp only [trSs, trS, trE, trT, trX, pl, trA, trO, trC, trI, uBin_s, uUn_s, uVar_s, uC_s, getS, setS, uOp, uAdd, uSub, uMul, uDiv, uMod, uPow, uNeg, uCmp, uEqF, uLt, uLe, uGt, uGe, uIsF, isNonU, uTru, Blt.fn, uLen, uAbs, uMax2, uMin2, uInt, uIx, startU, gam_fn, gam_gl, tab_xcs, tab_sub, UD_nx, UD_rt, UD_bk, UD_ct, UD_ex, spAt, glAt, gls, seqOf, List.map_cons, List.map_nil, List.cons_append, List.nil_append, List.length_cons, List.length_nil, List.replicate, Nat.reduceAdd, Nat.reduceSub, Nat.zero_add, reduceIte, Bool.false_eq_true, Bool.true_eq_false, Bool.false_bne, Bool.true_bne, Bool.not_true, Bool.not_false, Bool.not_not, List.reverse_cons, List.reverse_nil, Option.map_some, Option.map_none, up_same, uTuple, uList, uSet, atI_zero, atI_one, ixN_20, ixN_zero, List.set_cons_zero, uPow, t1__law_common]
  refine fin.of ?_
  have e : (2 : Int) - 1 + ((a + 1 - 2).toNat : Int) = a := by omega
  rw [e] at hc
  rw [com_end h1 h3 hc]
  exact q
/-! ### _law_pair -/
def sp__law_pair : USp := fun us G Q _ => ∃ p g, us = [.ref p] ∧ Pur G p g ∧ ∀ x y G', 1 ≤ x → x ≤ 64 → 1 ≤ y → y ≤ 64 → Pur G' p g → Fr p g G G' → Q (.tup [.int x, .int y]) G'
def cl__law_pair : List (Str × USp) := [("_law_pick", sp__law_pick)]
theorem pair_bd {s r : Int} (hs : 1 ≤ s) (hr : 0 ≤ r) : 1 ≤ min 64 (s * (1 + r)) ∧ min 64 (s * (1 + r)) ≤ 64 := by
  have : 0 ≤ s * r := Int.mul_nonneg (by omega) hr
  have e : s * (1 + r) = s + s * r := by rw [Int.mul_add, Int.mul_one]
  omega
theorem w__law_pair (us : List U) (G : UH) (Q : UK) (E : UXn → UH → Prop) (h : sp__law_pair us G Q E) : trSs (TB cl__law_pair) (GM cl__law_pair) b__law_pair (UD Q E) (startU n__law_pair us) G := by
  obtain ⟨p, g, rfl, hP, q⟩ := h
  have lg := line_ge
  have st2 : ∀ (top share : Int) (G1 : UH) (o : Option U), 1 ≤ top → top ≤ 64 → 1 ≤ share → share ≤ 8 → Pur G1 p g → Fr p g G G1 → trSs (TB cl__law_pair) (GM cl__law_pair) t2__law_pair (UD Q E) [some (.ref p), some (.int top), some (.int share), o] G1 := by
    intro top share G1 o t1 t2 s1 s2 hP1 f1
    simp only [trSs, trS, trE, trT, trX, pl, trA, trO, trC, trI, uBin_s, uUn_s, uVar_s, uC_s, getS, setS, uOp, uAdd, uSub, uMul, uDiv, uMod, uPow, uNeg, uCmp, uEqF, uLt, uLe, uGt, uGe, uIsF, isNonU, uTru, Blt.fn, uLen, uAbs, uMax2, uMin2, uInt, uIx, startU, gam_fn, gam_gl, tab_xcs, tab_sub, UD_nx, UD_rt, UD_bk, UD_ct, UD_ex, spAt, glAt, gls, seqOf, List.map_cons, List.map_nil, List.cons_append, List.nil_append, List.length_cons, List.length_nil, List.replicate, Nat.reduceAdd, Nat.reduceSub, Nat.zero_add, reduceIte, Bool.false_eq_true, Bool.true_eq_false, Bool.false_bne, Bool.true_bne, Bool.not_true, Bool.not_false, Bool.not_not, List.reverse_cons, List.reverse_nil, Option.map_some, Option.map_none, up_same, uTuple, uList, uSet, atI_zero, atI_one, ixN_20, ixN_zero, List.set_cons_zero, uPow, t2__law_pair, cl__law_pair, trG]
    refine ⟨p, g, top, rfl, hP1, by omega, by omega, fun r G2 a b hP2 f2 => ?_⟩
    refine ⟨mulL (by omega) (by omega), ?_⟩
    simp only [trSs, trS, trE, trT, trX, pl, trA, trO, trC, trI, uBin_s, uUn_s, uVar_s, uC_s, getS, setS, uOp, uAdd, uSub, uMul, uDiv, uMod, uPow, uNeg, uCmp, uEqF, uLt, uLe, uGt, uGe, uIsF, isNonU, uTru, Blt.fn, uLen, uAbs, uMax2, uMin2, uInt, uIx, startU, gam_fn, gam_gl, tab_xcs, tab_sub, UD_nx, UD_rt, UD_bk, UD_ct, UD_ex, spAt, glAt, gls, seqOf, List.map_cons, List.map_nil, List.cons_append, List.nil_append, List.length_cons, List.length_nil, List.replicate, Nat.reduceAdd, Nat.reduceSub, Nat.zero_add, reduceIte, Bool.false_eq_true, Bool.true_eq_false, Bool.false_bne, Bool.true_bne, Bool.not_true, Bool.not_false, Bool.not_not, List.reverse_cons, List.reverse_nil, Option.map_some, Option.map_none, up_same, uTuple, uList, uSet, atI_zero, atI_one, ixN_20, ixN_zero, List.set_cons_zero, uPow, t1__law_pair, cl__law_pair]
    refine ⟨p, g, top, rfl, hP2, by omega, by omega, fun r2 G3 a2 b2 hP3 f3 => ?_⟩
    refine ⟨mulL (by omega) (by omega), by omega, fin.of ?_⟩
    exact q _ _ _ (pair_bd s1 a).1 (pair_bd s1 a).2 (pair_bd s1 a2).1 (pair_bd s1 a2).2 hP3 ((f1.trans f2).trans f3)
  have st4 : ∀ (top : Int) (G1 : UH), 1 ≤ top → top ≤ 64 → Pur G1 p g → Fr p g G G1 → trSs (TB cl__law_pair) (GM cl__law_pair) t4__law_pair (UD Q E) [some (.ref p), some (.int top), none, none] G1 := by
    intro top G1 t1 t2 hP1 f1
    simp only [trSs, trS, trE, trT, trX, pl, trA, trO, trC, trI, uBin_s, uUn_s, uVar_s, uC_s, getS, setS, uOp, uAdd, uSub, uMul, uDiv, uMod, uPow, uNeg, uCmp, uEqF, uLt, uLe, uGt, uGe, uIsF, isNonU, uTru, Blt.fn, uLen, uAbs, uMax2, uMin2, uInt, uIx, startU, gam_fn, gam_gl, tab_xcs, tab_sub, UD_nx, UD_rt, UD_bk, UD_ct, UD_ex, spAt, glAt, gls, seqOf, List.map_cons, List.map_nil, List.cons_append, List.nil_append, List.length_cons, List.length_nil, List.replicate, Nat.reduceAdd, Nat.reduceSub, Nat.zero_add, reduceIte, Bool.false_eq_true, Bool.true_eq_false, Bool.false_bne, Bool.true_bne, Bool.not_true, Bool.not_false, Bool.not_not, List.reverse_cons, List.reverse_nil, Option.map_some, Option.map_none, up_same, uTuple, uList, uSet, atI_zero, atI_one, ixN_20, ixN_zero, List.set_cons_zero, uPow, t4__law_pair, trG]
    simp only [trSs, trS, trE, trT, trX, pl, trA, trO, trC, trI, uBin_s, uUn_s, uVar_s, uC_s, getS, setS, uOp, uAdd, uSub, uMul, uDiv, uMod, uPow, uNeg, uCmp, uEqF, uLt, uLe, uGt, uGe, uIsF, isNonU, uTru, Blt.fn, uLen, uAbs, uMax2, uMin2, uInt, uIx, startU, gam_fn, gam_gl, tab_xcs, tab_sub, UD_nx, UD_rt, UD_bk, UD_ct, UD_ex, spAt, glAt, gls, seqOf, List.map_cons, List.map_nil, List.cons_append, List.nil_append, List.length_cons, List.length_nil, List.replicate, Nat.reduceAdd, Nat.reduceSub, Nat.zero_add, reduceIte, Bool.false_eq_true, Bool.true_eq_false, Bool.false_bne, Bool.true_bne, Bool.not_true, Bool.not_false, Bool.not_not, List.reverse_cons, List.reverse_nil, Option.map_some, Option.map_none, up_same, uTuple, uList, uSet, atI_zero, atI_one, ixN_20, ixN_zero, List.set_cons_zero, uPow, t3__law_pair, cl__law_pair, trG]
    refine ⟨p, g, 2, rfl, hP1, by decide, by decide, fun r G2 a b hP2 f2 => ?_⟩
    by_cases h0 : r = 0
    · simp only [trSs, trS, trE, trT, trX, pl, trA, trO, trC, trI, uBin_s, uUn_s, uVar_s, uC_s, getS, setS, uOp, uAdd, uSub, uMul, uDiv, uMod, uPow, uNeg, uCmp, uEqF, uLt, uLe, uGt, uGe, uIsF, isNonU, uTru, Blt.fn, uLen, uAbs, uMax2, uMin2, uInt, uIx, startU, gam_fn, gam_gl, tab_xcs, tab_sub, UD_nx, UD_rt, UD_bk, UD_ct, UD_ex, spAt, glAt, gls, seqOf, List.map_cons, List.map_nil, List.cons_append, List.nil_append, List.length_cons, List.length_nil, List.replicate, Nat.reduceAdd, Nat.reduceSub, Nat.zero_add, reduceIte, Bool.false_eq_true, Bool.true_eq_false, Bool.false_bne, Bool.true_bne, Bool.not_true, Bool.not_false, Bool.not_not, List.reverse_cons, List.reverse_nil, Option.map_some, Option.map_none, up_same, uTuple, uList, uSet, atI_zero, atI_one, ixN_20, ixN_zero, List.set_cons_zero, uPow, h0, decide_true]
      refine ⟨p, g, 8, rfl, hP2, by decide, by decide, fun r2 G3 a2 b2 hP3 f3 => ?_⟩
      exact st2 top (1 + r2) G3 none t1 t2 (by omega) (by omega) hP3 ((f1.trans f2).trans f3)
    · simp only [trSs, trS, trE, trT, trX, pl, trA, trO, trC, trI, uBin_s, uUn_s, uVar_s, uC_s, getS, setS, uOp, uAdd, uSub, uMul, uDiv, uMod, uPow, uNeg, uCmp, uEqF, uLt, uLe, uGt, uGe, uIsF, isNonU, uTru, Blt.fn, uLen, uAbs, uMax2, uMin2, uInt, uIx, startU, gam_fn, gam_gl, tab_xcs, tab_sub, UD_nx, UD_rt, UD_bk, UD_ct, UD_ex, spAt, glAt, gls, seqOf, List.map_cons, List.map_nil, List.cons_append, List.nil_append, List.length_cons, List.length_nil, List.replicate, Nat.reduceAdd, Nat.reduceSub, Nat.zero_add, reduceIte, Bool.false_eq_true, Bool.true_eq_false, Bool.false_bne, Bool.true_bne, Bool.not_true, Bool.not_false, Bool.not_not, List.reverse_cons, List.reverse_nil, Option.map_some, Option.map_none, up_same, uTuple, uList, uSet, atI_zero, atI_one, ixN_20, ixN_zero, List.set_cons_zero, uPow, h0, decide_false]
      exact st2 top 1 G2 none t1 t2 (by omega) (by omega) hP2 (f1.trans f2)
  simp only [trSs, trS, trE, trT, trX, pl, trA, trO, trC, trI, uBin_s, uUn_s, uVar_s, uC_s, getS, setS, uOp, uAdd, uSub, uMul, uDiv, uMod, uPow, uNeg, uCmp, uEqF, uLt, uLe, uGt, uGe, uIsF, isNonU, uTru, Blt.fn, uLen, uAbs, uMax2, uMin2, uInt, uIx, startU, gam_fn, gam_gl, tab_xcs, tab_sub, UD_nx, UD_rt, UD_bk, UD_ct, UD_ex, spAt, glAt, gls, seqOf, List.map_cons, List.map_nil, List.cons_append, List.nil_append, List.length_cons, List.length_nil, List.replicate, Nat.reduceAdd, Nat.reduceSub, Nat.zero_add, reduceIte, Bool.false_eq_true, Bool.true_eq_false, Bool.false_bne, Bool.true_bne, Bool.not_true, Bool.not_false, Bool.not_not, List.reverse_cons, List.reverse_nil, Option.map_some, Option.map_none, up_same, uTuple, uList, uSet, atI_zero, atI_one, ixN_20, ixN_zero, List.set_cons_zero, uPow, b__law_pair, n__law_pair, trG]
  simp only [t5__law_pair, trSs, trS]
  refine if_pick rfl rfl hP (by decide) (by decide) fun r G2 a b hP2 f2 => ?_
  by_cases h0 : r = 0
  · simp only [trSs, trS, trE, trT, trX, pl, trA, trO, trC, trI, uBin_s, uUn_s, uVar_s, uC_s, getS, setS, uOp, uAdd, uSub, uMul, uDiv, uMod, uPow, uNeg, uCmp, uEqF, uLt, uLe, uGt, uGe, uIsF, isNonU, uTru, Blt.fn, uLen, uAbs, uMax2, uMin2, uInt, uIx, startU, gam_fn, gam_gl, tab_xcs, tab_sub, UD_nx, UD_rt, UD_bk, UD_ct, UD_ex, spAt, glAt, gls, seqOf, List.map_cons, List.map_nil, List.cons_append, List.nil_append, List.length_cons, List.length_nil, List.replicate, Nat.reduceAdd, Nat.reduceSub, Nat.zero_add, reduceIte, Bool.false_eq_true, Bool.true_eq_false, Bool.false_bne, Bool.true_bne, Bool.not_true, Bool.not_false, Bool.not_not, List.reverse_cons, List.reverse_nil, Option.map_some, Option.map_none, up_same, uTuple, uList, uSet, atI_zero, atI_one, ixN_20, ixN_zero, List.set_cons_zero, uPow, h0, decide_true, trG]
    exact st4 64 G2 (by decide) (by decide) hP2 f2
  · simp only [trSs, trS, trE, trT, trX, pl, trA, trO, trC, trI, uBin_s, uUn_s, uVar_s, uC_s, getS, setS, uOp, uAdd, uSub, uMul, uDiv, uMod, uPow, uNeg, uCmp, uEqF, uLt, uLe, uGt, uGe, uIsF, isNonU, uTru, Blt.fn, uLen, uAbs, uMax2, uMin2, uInt, uIx, startU, gam_fn, gam_gl, tab_xcs, tab_sub, UD_nx, UD_rt, UD_bk, UD_ct, UD_ex, spAt, glAt, gls, seqOf, List.map_cons, List.map_nil, List.cons_append, List.nil_append, List.length_cons, List.length_nil, List.replicate, Nat.reduceAdd, Nat.reduceSub, Nat.zero_add, reduceIte, Bool.false_eq_true, Bool.true_eq_false, Bool.false_bne, Bool.true_bne, Bool.not_true, Bool.not_false, Bool.not_not, List.reverse_cons, List.reverse_nil, Option.map_some, Option.map_none, up_same, uTuple, uList, uSet, atI_zero, atI_one, ixN_20, ixN_zero, List.set_cons_zero, uPow, h0, decide_false]
    exact st4 8 G2 (by decide) (by decide) hP2 f2
end K71
set_option Elab.async false
set_option linter.all false
set_option autoImplicit false
set_option maxRecDepth 100000
set_option maxHeartbeats 4000000
namespace K71
open PySem PySem.Spec L2 UL
/-! ### rows of the law -/
def SqU (G : UH) (row : U) (ws : List U) : Prop := row = .tup ws ∨ ∃ a, row = .ref a ∧ G a = some (.lst ws)
theorem SqU.le {G G' : UH} (l : Le G G') {row : U} {ws : List U} (h : SqU G row ws) : SqU G' row ws := by
  rcases h with h | ⟨a, h, h2⟩
  · exact .inl h
  · exact .inr ⟨a, h, l _ _ h2⟩
theorem len_sq {G : UH} {row : U} {ws : List U} (h : SqU G row ws) {Q : UK} (q : Q (.int ws.length) G) : uLen [row] G Q := by
  rcases h with rfl | ⟨a, rfl, e⟩
  · exact q
  · unfold uLen
    simp only [e]
    exact q
theorem ix_sq {G : UH} {row : U} {ws : List U} (h : SqU G row ws) {i : Int} {u : U} (e : atI ws i = some u) {Q : UK} (q : Q u G) : uIx row (.int i) G Q := by
  rcases h with rfl | ⟨a, rfl, e2⟩
  · unfold uIx
    simp only [e]
    exact q
  · unfold uIx
    simp only [e2, e]
    exact q
theorem seq_sq {G : UH} {row : U} {ws : List U} (h : SqU G row ws) {k : Deps → List U → Prop} (q : ∀ ds, depsOk G ds → k ds ws) : seqOf row G k := by
  rcases h with rfl | ⟨a, rfl, e⟩
  · exact q [] trivial
  · unfold seqOf
    simp only [e]
    exact q _ ⟨e, trivial⟩
theorem atI_k {ws : List U} {k : Nat} {w : U} (h : ws[k]? = some w) : atI ws (k : Int) = some w := atI_nat (by omega) (by simpa using h)
/-! ### _law_spread -/
def sp__law_spread : USp := fun us G Q _ => ∃ row m ws, us = [row, .int m] ∧ SqU G row ws ∧ 1 ≤ m ∧ m ≤ 64 ∧ ws.length ≤ 100000 ∧ ∀ p G', G' p = some (.lst (spreadL ws m)) → Le G G' → Q (.ref p) G'
def cl__law_spread : List (Str × USp) := []
theorem l__law_spread {G0 : UH} {row : U} {ws : List U} {m : Int} {p : Addr} (hs : SqU G0 row ws) (m1 : 1 ≤ m) (m2 : m ≤ 64) (hl : ws.length ≤ 100000) (hp0 : G0 p = none) (D : UE) (qn : ∀ o G, Le G0 G → G p = some (.lst (spreadL ws m)) → D.nx [some row, some (.int m), some (.ref p), o] G) :
    ∀ (n k : Nat) (o : Option U) (G : UH), k + n = ws.length → Le G0 G → G p = some (.lst (spS ws m k)) →
    forU [] (trG (.nm 3)) (trSs (TB cl__law_spread) (GM cl__law_spread) l1__law_spread) D (List.map U.int (rangeI k 1 n)) [some row, some (.int m), some (.ref p), o] G
  | 0, k, o, G, hk, l, hp => ⟨trivial, qn o G l (by rw [← spS_end, ← hk]; exact hp)⟩
  | n + 1, k, o, G, hk, l, hp => by
    have hw : ∃ w, ws[k]? = some w := ⟨_, List.getElem?_eq_getElem (by omega)⟩
    obtain ⟨w, hw⟩ := hw
    have next : ∀ o G, Le G0 G → G p = some (.lst (spS ws m (k + 1))) → forU [] (trG (.nm 3)) (trSs (TB cl__law_spread) (GM cl__law_spread) l1__law_spread) D (List.map U.int (rangeI ((k : Int) + 1) 1 n)) [some row, some (.int m), some (.ref p), o] G := fun o G l hp => l__law_spread hs m1 m2 hl hp0 D qn n (k + 1) o G (by omega) l hp
    refine ⟨trivial, ?_⟩
    generalize hT : forU _ _ _ D (List.map U.int (rangeI ((k : Int) + 1) 1 n)) = T at next
    simp only [trSs, trS, trE, trT, trX, pl, trA, trO, trC, trI, uBin_s, uUn_s, uVar_s, uC_s, getS, setS, uOp, uAdd, uSub, uMul, uDiv, uMod, uPow, uNeg, uCmp, uEqF, uLt, uLe, uGt, uGe, uIsF, isNonU, uTru, Blt.fn, uAbs, uMax2, uMin2, uInt, startU, gam_fn, gam_gl, tab_xcs, tab_sub, UD_nx, UD_rt, UD_bk, UD_ct, UD_ex, spAt, glAt, gls, List.map_cons, List.map_nil, List.cons_append, List.nil_append, List.length_cons, List.length_nil, List.replicate, Nat.reduceAdd, Nat.reduceSub, Nat.zero_add, reduceIte, Bool.false_eq_true, Bool.true_eq_false, Bool.false_bne, Bool.true_bne, Bool.not_true, Bool.not_false, Bool.not_not, List.reverse_cons, List.reverse_nil, Option.map_some, Option.map_none, up_same, uSet, atI_zero, atI_one, ixN_20, ixN_zero, List.set_cons_zero, uPow, trG, l1__law_spread]
    refine ix_sq (hs.le l) (atI_k hw) ?_
    have lt : (k : Int) * m < (spS ws m k).length := by
      rw [spS_len ws m1 (by omega), Int.natCast_mul, Int.toNat_of_nonneg (by omega)]
      exact Int.mul_lt_mul_of_pos_right (by omega) (by omega)
    simp only [trSs, trS, trE, trT, trX, pl, trA, trO, trC, trI, uBin_s, uUn_s, uVar_s, uC_s, getS, setS, uOp, uAdd, uSub, uMul, uDiv, uMod, uPow, uNeg, uCmp, uEqF, uLt, uLe, uGt, uGe, uIsF, isNonU, uTru, Blt.fn, uAbs, uMax2, uMin2, uInt, startU, gam_fn, gam_gl, tab_xcs, tab_sub, UD_nx, UD_rt, UD_bk, UD_ct, UD_ex, spAt, glAt, gls, List.map_cons, List.map_nil, List.cons_append, List.nil_append, List.length_cons, List.length_nil, List.replicate, Nat.reduceAdd, Nat.reduceSub, Nat.zero_add, reduceIte, Bool.false_eq_true, Bool.true_eq_false, Bool.false_bne, Bool.true_bne, Bool.not_true, Bool.not_false, Bool.not_not, List.reverse_cons, List.reverse_nil, Option.map_some, Option.map_none, up_same, uSet, atI_zero, atI_one, ixN_20, ixN_zero, List.set_cons_zero, uPow, hp, ixN_nat (Int.mul_nonneg (Int.natCast_nonneg k) (show 0 ≤ m by omega)) lt]
    refine ⟨mulR (by omega) (by omega), _, .refl _, next _ _ ?_ ?_⟩
    · intro a u e
      rw [up_ne (fun z => by subst z; rw [hp0] at e; cases e)]
      exact l a u e
    · rw [up_same, ← spS_succ ws m1 hw]
      have : ((k : Int) * m).toNat = k * m.toNat := by
        obtain ⟨M, rfl⟩ := Int.eq_ofNat_of_zero_le (show 0 ≤ m by omega)
        rw [← Int.natCast_mul]
        rfl
      rw [this]
theorem w__law_spread (us : List U) (G : UH) (Q : UK) (E : UXn → UH → Prop) (h : sp__law_spread us G Q E) : trSs (TB cl__law_spread) (GM cl__law_spread) b__law_spread (UD Q E) (startU n__law_spread us) G := by
  obtain ⟨row, m, ws, rfl, hs, m1, m2, hl, q⟩ := h
  have lg := line_ge
  simp only [trSs, trS, trE, trT, trX, pl, trA, trO, trC, trI, uBin_s, uUn_s, uVar_s, uC_s, getS, setS, uOp, uAdd, uSub, uMul, uDiv, uMod, uPow, uNeg, uCmp, uEqF, uLt, uLe, uGt, uGe, uIsF, isNonU, uTru, Blt.fn, uAbs, uMax2, uMin2, uInt, startU, gam_fn, gam_gl, tab_xcs, tab_sub, UD_nx, UD_rt, UD_bk, UD_ct, UD_ex, spAt, glAt, gls, List.map_cons, List.map_nil, List.cons_append, List.nil_append, List.length_cons, List.length_nil, List.replicate, Nat.reduceAdd, Nat.reduceSub, Nat.zero_add, reduceIte, Bool.false_eq_true, Bool.true_eq_false, Bool.false_bne, Bool.true_bne, Bool.not_true, Bool.not_false, Bool.not_not, List.reverse_cons, List.reverse_nil, Option.map_some, Option.map_none, up_same, uSet, atI_zero, atI_one, ixN_20, ixN_zero, List.set_cons_zero, uPow, b__law_spread, n__law_spread, trG]
  refine ⟨by omega, fun g hg => ?_⟩
  refine len_sq (hs.le (.new hg)) ?_
  have h1 : (ws.length : Int) * m ≤ 100000 * 64 := Int.mul_le_mul (by omega) m2 (by omega) (by omega)
  have h0 : 0 ≤ (ws.length : Int) * m := Int.mul_nonneg (by omega) (by omega)
  simp only [trSs, trS, trE, trT, trX, pl, trA, trO, trC, trI, uBin_s, uUn_s, uVar_s, uC_s, getS, setS, uOp, uAdd, uSub, uMul, uDiv, uMod, uPow, uNeg, uCmp, uEqF, uLt, uLe, uGt, uGe, uIsF, isNonU, uTru, Blt.fn, uAbs, uMax2, uMin2, uInt, startU, gam_fn, gam_gl, tab_xcs, tab_sub, UD_nx, UD_rt, UD_bk, UD_ct, UD_ex, spAt, glAt, gls, List.map_cons, List.map_nil, List.cons_append, List.nil_append, List.length_cons, List.length_nil, List.replicate, Nat.reduceAdd, Nat.reduceSub, Nat.zero_add, reduceIte, Bool.false_eq_true, Bool.true_eq_false, Bool.false_bne, Bool.true_bne, Bool.not_true, Bool.not_false, Bool.not_not, List.reverse_cons, List.reverse_nil, Option.map_some, Option.map_none, up_same, uSet, atI_zero, atI_one, ixN_20, ixN_zero, List.set_cons_zero, uPow, trG]
  refine ⟨mulR (by omega) (by omega), by omega, by omega, by omega, fun p hp => ?_⟩
  simp only [trSs, trS, trE, trT, trX, pl, trA, trO, trC, trI, uBin_s, uUn_s, uVar_s, uC_s, getS, setS, uOp, uAdd, uSub, uMul, uDiv, uMod, uPow, uNeg, uCmp, uEqF, uLt, uLe, uGt, uGe, uIsF, isNonU, uTru, Blt.fn, uAbs, uMax2, uMin2, uInt, startU, gam_fn, gam_gl, tab_xcs, tab_sub, UD_nx, UD_rt, UD_bk, UD_ct, UD_ex, spAt, glAt, gls, List.map_cons, List.map_nil, List.cons_append, List.nil_append, List.length_cons, List.length_nil, List.replicate, Nat.reduceAdd, Nat.reduceSub, Nat.zero_add, reduceIte, Bool.false_eq_true, Bool.true_eq_false, Bool.false_bne, Bool.true_bne, Bool.not_true, Bool.not_false, Bool.not_not, List.reverse_cons, List.reverse_nil, Option.map_some, Option.map_none, up_same, uSet, atI_zero, atI_one, ixN_20, ixN_zero, List.set_cons_zero, uPow, t2__law_spread]
  have hgp : Le G (up (up G g (.lst [U.int 0])) p (.lst (List.replicate ((ws.length : Int) * m).toNat [U.int 0]).flatten)) := (Le.new hg).trans (.new hp)
  refine len_sq (hs.le hgp) ?_
  simp only [trSs, trS, trE, trT, trX, pl, trA, trO, trC, trI, uBin_s, uUn_s, uVar_s, uC_s, getS, setS, uOp, uAdd, uSub, uMul, uDiv, uMod, uPow, uNeg, uCmp, uEqF, uLt, uLe, uGt, uGe, uIsF, isNonU, uTru, Blt.fn, uAbs, uMax2, uMin2, uInt, startU, gam_fn, gam_gl, tab_xcs, tab_sub, UD_nx, UD_rt, UD_bk, UD_ct, UD_ex, spAt, glAt, gls, List.map_cons, List.map_nil, List.cons_append, List.nil_append, List.length_cons, List.length_nil, List.replicate, Nat.reduceAdd, Nat.reduceSub, Nat.zero_add, reduceIte, Bool.false_eq_true, Bool.true_eq_false, Bool.false_bne, Bool.true_bne, Bool.not_true, Bool.not_false, Bool.not_not, List.reverse_cons, List.reverse_nil, Option.map_some, Option.map_none, up_same, uSet, atI_zero, atI_one, ixN_20, ixN_zero, List.set_cons_zero, uPow]
  refine ⟨by unfold small62; omega, ?_⟩
  rw [rangeU_map]
  have hp0 : G p = none := by
    by_cases z : p = g
    · subst z; exact hg
    · rw [up_ne z] at hp; exact hp
  refine l__law_spread hs m1 m2 hl hp0 _ (fun o G1 l hp => ?_) ((ws.length : Int).toNat) 0 none _ (by omega) hgp ?_
  · simp only [trSs, trS, trE, trT, trX, pl, trA, trO, trC, trI, uBin_s, uUn_s, uVar_s, uC_s, getS, setS, uOp, uAdd, uSub, uMul, uDiv, uMod, uPow, uNeg, uCmp, uEqF, uLt, uLe, uGt, uGe, uIsF, isNonU, uTru, Blt.fn, uAbs, uMax2, uMin2, uInt, startU, gam_fn, gam_gl, tab_xcs, tab_sub, UD_nx, UD_rt, UD_bk, UD_ct, UD_ex, spAt, glAt, gls, List.map_cons, List.map_nil, List.cons_append, List.nil_append, List.length_cons, List.length_nil, List.replicate, Nat.reduceAdd, Nat.reduceSub, Nat.zero_add, reduceIte, Bool.false_eq_true, Bool.true_eq_false, Bool.false_bne, Bool.true_bne, Bool.not_true, Bool.not_false, Bool.not_not, List.reverse_cons, List.reverse_nil, Option.map_some, Option.map_none, up_same, uSet, atI_zero, atI_one, ixN_20, ixN_zero, List.set_cons_zero, uPow, t1__law_spread]
    exact ⟨G1, .refl _, q p G1 hp l⟩
  · rw [up_same, rep_flat, spS_zero ws m1]
    have : ((ws.length : Int) * m).toNat = ws.length * m.toNat := by
      obtain ⟨M, rfl⟩ := Int.eq_ofNat_of_zero_le (show 0 ≤ m by omega)
      rw [← Int.natCast_mul]
      rfl
    rw [this]
/-! ### _law_kept -/
def sp__law_kept : USp := fun us G Q _ => ∃ row m ws, us = [row, .int m] ∧ SqU G row ws ∧ 1 ≤ m ∧ m ≤ 64 ∧ ws.length ≤ 10000000 ∧ ∀ p G', G' p = some (.lst (stp ws m)) → Le G G' → Q (.ref p) G'
def cl__law_kept : List (Str × USp) := []
def kC (m : Int) : U → Bool
  | .tup [.int i, _] => decide (i - i / m * m = 0)
  | _ => false
def kF : U → U
  | .tup [_, u] => u
  | u => u
theorem enum_len : ∀ (us : List U) (i : Nat), (enumU i us).length = us.length
  | [], _ => rfl
  | u :: us, i => by rw [enumU, List.length_cons, enum_len us, List.length_cons]
theorem enum_mem : ∀ (us : List U) (i : Nat) (y : U), y ∈ enumU i us → ∃ (j : Nat) (u : U), y = .tup [.int (j : Int), u] ∧ u ∈ us
  | [], _, y, h => by cases h
  | u :: us, i, y, h => by
    rw [enumU, List.mem_cons] at h
    rcases h with h | h
    · exact ⟨i, u, h, List.mem_cons_self⟩
    · obtain ⟨j, w, h1, h2⟩ := enum_mem us (i + 1) y h
      exact ⟨j, w, h1, List.mem_cons_of_mem _ h2⟩
theorem kept_filter (m : Int) : ∀ (us : List U) (i : Nat), ((enumU i us).filter (kC m)).map kF = keptL m i us
  | [], _ => rfl
  | u :: us, i => by
    rw [enumU, List.filter_cons, keptL]
    by_cases c : (i : Int) - (i : Int) / m * m = 0
    · rw [if_pos (show kC m (.tup [.int (i : Int), u]) = true from decide_eq_true c), if_pos c, List.map_cons, kept_filter m us]
      rfl
    · rw [if_neg (show ¬ kC m (.tup [.int (i : Int), u]) = true from by simp only [kC, decide_eq_true_eq]; exact c), if_neg c, kept_filter m us]
theorem w__law_kept (us : List U) (G : UH) (Q : UK) (E : UXn → UH → Prop) (h : sp__law_kept us G Q E) : trSs (TB cl__law_kept) (GM cl__law_kept) b__law_kept (UD Q E) (startU n__law_kept us) G := by
  obtain ⟨row, m, ws, rfl, hs, m1, m2, hl, q⟩ := h
  have lg := line_ge
  simp only [trSs, trS, trE, trT, trX, pl, trA, trO, trC, trI, uBin_s, uUn_s, uVar_s, uC_s, getS, setS, uOp, uAdd, uSub, uMul, uDiv, uMod, uPow, uNeg, uCmp, uEqF, uLt, uLe, uGt, uGe, uIsF, isNonU, uTru, Blt.fn, uAbs, uMax2, uMin2, uInt, startU, gam_fn, gam_gl, tab_xcs, tab_sub, UD_nx, UD_rt, UD_bk, UD_ct, UD_ex, spAt, glAt, gls, List.map_cons, List.map_nil, List.cons_append, List.nil_append, List.length_cons, List.length_nil, List.replicate, Nat.reduceAdd, Nat.reduceSub, Nat.zero_add, reduceIte, Bool.false_eq_true, Bool.true_eq_false, Bool.false_bne, Bool.true_bne, Bool.not_true, Bool.not_false, Bool.not_not, List.reverse_cons, List.reverse_nil, Option.map_some, Option.map_none, up_same, uSet, atI_zero, atI_one, ixN_20, ixN_zero, List.set_cons_zero, uPow, b__law_kept, n__law_kept, trG]
  refine seq_sq hs fun ds hd => ?_
  intro p hp
  refine lcU_pure (c := kC m) (f := kF) (fun _ => deps_up hd hp) _ [] (by rw [enum_len]; simp; omega) ?_ ?_
  · intro y hy acc K1 K0 k1 k0
    obtain ⟨j, u, rfl, _⟩ := enum_mem _ _ _ hy
    simp only [trSs, trS, trE, trT, trX, pl, trA, trO, trC, trI, uBin_s, uUn_s, uVar_s, uC_s, getS, setS, uOp, uAdd, uSub, uMul, uDiv, uMod, uPow, uNeg, uCmp, uEqF, uLt, uLe, uGt, uGe, uIsF, isNonU, uTru, Blt.fn, uAbs, uMax2, uMin2, uInt, startU, gam_fn, gam_gl, tab_xcs, tab_sub, UD_nx, UD_rt, UD_bk, UD_ct, UD_ex, spAt, glAt, gls, List.map_cons, List.map_nil, List.cons_append, List.nil_append, List.length_cons, List.length_nil, List.replicate, Nat.reduceAdd, Nat.reduceSub, Nat.zero_add, reduceIte, Bool.false_eq_true, Bool.true_eq_false, Bool.false_bne, Bool.true_bne, Bool.not_true, Bool.not_false, Bool.not_not, List.reverse_cons, List.reverse_nil, Option.map_some, Option.map_none, up_same, uSet, atI_zero, atI_one, ixN_20, ixN_zero, List.set_cons_zero, uPow, slotsG, slotsGs, wipeU, trG, trGs, lenG]
    refine ⟨trivial, trivial, divS (by omega) (by omega), mulR (by omega) (by omega), ?_⟩
    by_cases c : (j : Int) - (j : Int) / m * m = 0
    · simp only [trSs, trS, trE, trT, trX, pl, trA, trO, trC, trI, uBin_s, uUn_s, uVar_s, uC_s, getS, setS, uOp, uAdd, uSub, uMul, uDiv, uMod, uPow, uNeg, uCmp, uEqF, uLt, uLe, uGt, uGe, uIsF, isNonU, uTru, Blt.fn, uAbs, uMax2, uMin2, uInt, startU, gam_fn, gam_gl, tab_xcs, tab_sub, UD_nx, UD_rt, UD_bk, UD_ct, UD_ex, spAt, glAt, gls, List.map_cons, List.map_nil, List.cons_append, List.nil_append, List.length_cons, List.length_nil, List.replicate, Nat.reduceAdd, Nat.reduceSub, Nat.zero_add, reduceIte, Bool.false_eq_true, Bool.true_eq_false, Bool.false_bne, Bool.true_bne, Bool.not_true, Bool.not_false, Bool.not_not, List.reverse_cons, List.reverse_nil, Option.map_some, Option.map_none, up_same, uSet, atI_zero, atI_one, ixN_20, ixN_zero, List.set_cons_zero, uPow, c, decide_true]
      exact k1 (decide_eq_true c)
    · simp only [trSs, trS, trE, trT, trX, pl, trA, trO, trC, trI, uBin_s, uUn_s, uVar_s, uC_s, getS, setS, uOp, uAdd, uSub, uMul, uDiv, uMod, uPow, uNeg, uCmp, uEqF, uLt, uLe, uGt, uGe, uIsF, isNonU, uTru, Blt.fn, uAbs, uMax2, uMin2, uInt, startU, gam_fn, gam_gl, tab_xcs, tab_sub, UD_nx, UD_rt, UD_bk, UD_ct, UD_ex, spAt, glAt, gls, List.map_cons, List.map_nil, List.cons_append, List.nil_append, List.length_cons, List.length_nil, List.replicate, Nat.reduceAdd, Nat.reduceSub, Nat.zero_add, reduceIte, Bool.false_eq_true, Bool.true_eq_false, Bool.false_bne, Bool.true_bne, Bool.not_true, Bool.not_false, Bool.not_not, List.reverse_cons, List.reverse_nil, Option.map_some, Option.map_none, up_same, uSet, atI_zero, atI_one, ixN_20, ixN_zero, List.set_cons_zero, uPow, c, decide_false]
      exact k0 (decide_eq_false c)
  · rw [List.nil_append, kept_filter, kept_stp _ m1]
    exact fin.of (q p _ up_same (.new hp))
/-! ### _law_is_sound: the same -/
def sp__law_is_sound : USp := fun us G Q _ => ∃ ws a, us = [.tup ws, .ref a] ∧ G a = some (.lst ws) ∧ ws.all isW = true ∧ Q (.bl true) G
def cl__law_is_sound : List (Str × USp) := []
theorem l__law_is_sound {G : UH} {t d : U} {ds : Deps} (hd : depsOk G ds) (D : UE) (qn : ∀ o o2, D.nx [some t, some d, o, o2] G) : ∀ (ws : List U) (o o2 : Option U), ws.all isW = true → 
    forU ds (trG (.tup (.cons (.nm 2) (.cons (.nm 3) .nil)))) (trSs (TB cl__law_is_sound) (GM cl__law_is_sound) l1__law_is_sound) D (zipU ws ws) [some t, some d, o, o2] G
  | [], o, o2, _ => ⟨hd, qn o o2⟩
  | w :: ws, o, o2, h => by
    simp only [List.all_cons, Bool.and_eq_true] at h
    have next : ∀ o o2, forU ds (trG (.tup (.cons (.nm 2) (.cons (.nm 3) .nil)))) (trSs (TB cl__law_is_sound) (GM cl__law_is_sound) l1__law_is_sound) D (zipU ws ws) [some t, some d, o, o2] G := fun o o2 => l__law_is_sound hd D qn ws o o2 h.2
    refine ⟨hd, ?_⟩
    generalize hT : forU _ _ _ D (zipU ws ws) = T at next
    cases w with
    | int i =>
      simp only [trSs, trS, trE, trT, trX, pl, trA, trO, trC, trI, uBin_s, uUn_s, uVar_s, uC_s, getS, setS, uOp, uAdd, uSub, uMul, uDiv, uMod, uPow, uNeg, uCmp, uEqF, uLt, uLe, uGt, uGe, uIsF, isNonU, uTru, Blt.fn, uLen, uAbs, uMax2, uMin2, uInt, uIx, startU, gam_fn, gam_gl, tab_xcs, tab_sub, UD_nx, UD_rt, UD_bk, UD_ct, UD_ex, spAt, glAt, gls, seqOf, List.map_cons, List.map_nil, List.cons_append, List.nil_append, List.length_cons, List.length_nil, List.replicate, Nat.reduceAdd, Nat.reduceSub, Nat.zero_add, reduceIte, Bool.false_eq_true, Bool.true_eq_false, Bool.false_bne, Bool.true_bne, Bool.not_true, Bool.not_false, Bool.not_not, List.reverse_cons, List.reverse_nil, Option.map_some, Option.map_none, up_same, uTuple, uList, uSet, atI_zero, atI_one, ixN_20, ixN_zero, List.set_cons_zero, uPow, trG, trGs, lenG, l1__law_is_sound]
      refine ⟨trivial, trivial, isi_int rfl ?_⟩
      simp only [trSs, trS, trE, trT, trX, pl, trA, trO, trC, trI, uBin_s, uUn_s, uVar_s, uC_s, getS, setS, uOp, uAdd, uSub, uMul, uDiv, uMod, uPow, uNeg, uCmp, uEqF, uLt, uLe, uGt, uGe, uIsF, isNonU, uTru, Blt.fn, uLen, uAbs, uMax2, uMin2, uInt, uIx, startU, gam_fn, gam_gl, tab_xcs, tab_sub, UD_nx, UD_rt, UD_bk, UD_ct, UD_ex, spAt, glAt, gls, seqOf, List.map_cons, List.map_nil, List.cons_append, List.nil_append, List.length_cons, List.length_nil, List.replicate, Nat.reduceAdd, Nat.reduceSub, Nat.zero_add, reduceIte, Bool.false_eq_true, Bool.true_eq_false, Bool.false_bne, Bool.true_bne, Bool.not_true, Bool.not_false, Bool.not_not, List.reverse_cons, List.reverse_nil, Option.map_some, Option.map_none, up_same, uTuple, uList, uSet, atI_zero, atI_one, ixN_20, ixN_zero, List.set_cons_zero, uPow, kI]
      refine isi_bool rfl ?_
      simp only [trSs, trS, trE, trT, trX, pl, trA, trO, trC, trI, uBin_s, uUn_s, uVar_s, uC_s, getS, setS, uOp, uAdd, uSub, uMul, uDiv, uMod, uPow, uNeg, uCmp, uEqF, uLt, uLe, uGt, uGe, uIsF, isNonU, uTru, Blt.fn, uLen, uAbs, uMax2, uMin2, uInt, uIx, startU, gam_fn, gam_gl, tab_xcs, tab_sub, UD_nx, UD_rt, UD_bk, UD_ct, UD_ex, spAt, glAt, gls, seqOf, List.map_cons, List.map_nil, List.cons_append, List.nil_append, List.length_cons, List.length_nil, List.replicate, Nat.reduceAdd, Nat.reduceSub, Nat.zero_add, reduceIte, Bool.false_eq_true, Bool.true_eq_false, Bool.false_bne, Bool.true_bne, Bool.not_true, Bool.not_false, Bool.not_not, List.reverse_cons, List.reverse_nil, Option.map_some, Option.map_none, up_same, uTuple, uList, uSet, atI_zero, atI_one, ixN_20, ixN_zero, List.set_cons_zero, uPow, kB, decide_true]
      exact ⟨G, .refl G, next _ _⟩
    | _ => cases h.1
theorem w__law_is_sound (us : List U) (G : UH) (Q : UK) (E : UXn → UH → Prop) (h : sp__law_is_sound us G Q E) : trSs (TB cl__law_is_sound) (GM cl__law_is_sound) b__law_is_sound (UD Q E) (startU n__law_is_sound us) G := by
  obtain ⟨ws, a, rfl, ha, hw, q⟩ := h
  simp only [trSs, trS, trE, trT, trX, pl, trA, trO, trC, trI, uBin_s, uUn_s, uVar_s, uC_s, getS, setS, uOp, uAdd, uSub, uMul, uDiv, uMod, uPow, uNeg, uCmp, uEqF, uLt, uLe, uGt, uGe, uIsF, isNonU, uTru, Blt.fn, uLen, uAbs, uMax2, uMin2, uInt, uIx, startU, gam_fn, gam_gl, tab_xcs, tab_sub, UD_nx, UD_rt, UD_bk, UD_ct, UD_ex, spAt, glAt, gls, seqOf, List.map_cons, List.map_nil, List.cons_append, List.nil_append, List.length_cons, List.length_nil, List.replicate, Nat.reduceAdd, Nat.reduceSub, Nat.zero_add, reduceIte, Bool.false_eq_true, Bool.true_eq_false, Bool.false_bne, Bool.true_bne, Bool.not_true, Bool.not_false, Bool.not_not, List.reverse_cons, List.reverse_nil, Option.map_some, Option.map_none, up_same, uTuple, uList, uSet, atI_zero, atI_one, ixN_20, ixN_zero, List.set_cons_zero, uPow, b__law_is_sound, n__law_is_sound]
  refine isi_tuple rfl ?_
  simp only [trSs, trS, trE, trT, trX, pl, trA, trO, trC, trI, uBin_s, uUn_s, uVar_s, uC_s, getS, setS, uOp, uAdd, uSub, uMul, uDiv, uMod, uPow, uNeg, uCmp, uEqF, uLt, uLe, uGt, uGe, uIsF, isNonU, uTru, Blt.fn, uLen, uAbs, uMax2, uMin2, uInt, uIx, startU, gam_fn, gam_gl, tab_xcs, tab_sub, UD_nx, UD_rt, UD_bk, UD_ct, UD_ex, spAt, glAt, gls, seqOf, List.map_cons, List.map_nil, List.cons_append, List.nil_append, List.length_cons, List.length_nil, List.replicate, Nat.reduceAdd, Nat.reduceSub, Nat.zero_add, reduceIte, Bool.false_eq_true, Bool.true_eq_false, Bool.false_bne, Bool.true_bne, Bool.not_true, Bool.not_false, Bool.not_not, List.reverse_cons, List.reverse_nil, Option.map_some, Option.map_none, up_same, uTuple, uList, uSet, atI_zero, atI_one, ixN_20, ixN_zero, List.set_cons_zero, uPow, kT, ha, decide_true]
  simp only [trSs, trS, trE, trT, trX, pl, trA, trO, trC, trI, uBin_s, uUn_s, uVar_s, uC_s, getS, setS, uOp, uAdd, uSub, uMul, uDiv, uMod, uPow, uNeg, uCmp, uEqF, uLt, uLe, uGt, uGe, uIsF, isNonU, uTru, Blt.fn, uLen, uAbs, uMax2, uMin2, uInt, uIx, startU, gam_fn, gam_gl, tab_xcs, tab_sub, UD_nx, UD_rt, UD_bk, UD_ct, UD_ex, spAt, glAt, gls, seqOf, List.map_cons, List.map_nil, List.cons_append, List.nil_append, List.length_cons, List.length_nil, List.replicate, Nat.reduceAdd, Nat.reduceSub, Nat.zero_add, reduceIte, Bool.false_eq_true, Bool.true_eq_false, Bool.false_bne, Bool.true_bne, Bool.not_true, Bool.not_false, Bool.not_not, List.reverse_cons, List.reverse_nil, Option.map_some, Option.map_none, up_same, uTuple, uList, uSet, atI_zero, atI_one, ixN_20, ixN_zero, List.set_cons_zero, uPow, t2__law_is_sound, ha]
  refine l__law_is_sound (ds := [(a, ws)]) (show depsOk G [(a, ws)] from ⟨ha, trivial⟩) _ (fun o o2 => ?_) ws none none hw
  simp only [trSs, trS, trE, trT, trX, pl, trA, trO, trC, trI, uBin_s, uUn_s, uVar_s, uC_s, getS, setS, uOp, uAdd, uSub, uMul, uDiv, uMod, uPow, uNeg, uCmp, uEqF, uLt, uLe, uGt, uGe, uIsF, isNonU, uTru, Blt.fn, uLen, uAbs, uMax2, uMin2, uInt, uIx, startU, gam_fn, gam_gl, tab_xcs, tab_sub, UD_nx, UD_rt, UD_bk, UD_ct, UD_ex, spAt, glAt, gls, seqOf, List.map_cons, List.map_nil, List.cons_append, List.nil_append, List.length_cons, List.length_nil, List.replicate, Nat.reduceAdd, Nat.reduceSub, Nat.zero_add, reduceIte, Bool.false_eq_true, Bool.true_eq_false, Bool.false_bne, Bool.true_bne, Bool.not_true, Bool.not_false, Bool.not_not, List.reverse_cons, List.reverse_nil, Option.map_some, Option.map_none, up_same, uTuple, uList, uSet, atI_zero, atI_one, ixN_20, ixN_zero, List.set_cons_zero, uPow, t1__law_is_sound]
  exact fin.of q
end K71
set_option Elab.async false
set_option linter.all false
set_option autoImplicit false
set_option maxRecDepth 100000
set_option maxHeartbeats 4000000
namespace K71
open PySem PySem.Spec L2 UL
/-! ### _law_both -/
def sp__law_both : USp := fun us G Q _ => ∃ (p q : Int) (ws : List U) (same : U), us = [.int p, .int q, .tup ws, same] ∧ 1 ≤ p ∧ p ≤ 64 ∧ 1 ≤ q ∧ q ≤ 64 ∧ ws.all isW = true ∧ ws.length ≤ 1000 ∧
  (same = .non ∨ ∃ b, same = .bl b ∧ (stp (spreadL ws p) q = spreadL (stp ws q) p ↔ b = true)) ∧ ∀ G', Le G G' → Q (.bl true) G'
def cl__law_both : List (Str × USp) := [("spread", sp_spread), ("kept_each", sp_kept_each), ("_law_is_sound", sp__law_is_sound), ("_law_kept", sp__law_kept), ("_law_spread", sp__law_spread)]
theorem look_ok {ws : List U} {m : Int} (h : ws.all isW = true) (h1 : 1 ≤ m) (h2 : m ≤ 64) : lookW (.tup ws) (.int m) = none := by
  unfold lookW
  rw [if_pos (show isS (.tup ws) = true from h), if_pos (show okM (.int m) = true from by simp [okM, h1, h2])]
theorem W_ty {G : UH} {u : U} (h : isW u = true) : tyS G u := by
  cases u with
  | int i => rfl
  | _ => cases h
theorem W_ok {G : UH} {ws : List U} (h : ws.all isW = true) : okS G (.tup ws) := ⟨rfl, fun ws' e x hx => by
  cases e
  exact W_ty (List.all_eq_true.mp h x hx)⟩
theorem W_spread {ws : List U} {m : Int} (h : ws.all isW = true) : (spreadL ws m).all isW = true := by
  rw [List.all_eq_true] at h ⊢
  intro x hx
  unfold spreadL at hx
  obtain ⟨w, hw, hx⟩ := List.mem_flatMap.mp hx
  rw [List.mem_cons] at hx
  rcases hx with rfl | hx
  · exact h x hw
  · rw [List.eq_of_mem_replicate hx]
    rfl
theorem W_stp {ws : List U} {m : Int} (h : ws.all isW = true) : (stp ws m).all isW = true := by
  rw [List.all_eq_true] at h ⊢
  intro x hx
  unfold stp at hx
  obtain ⟨j, _, hx⟩ := List.mem_filterMap.mp hx
  exact h x (List.mem_of_getElem? hx)
theorem w__law_both (us : List U) (G : UH) (Q : UK) (E : UXn → UH → Prop) (h : sp__law_both us G Q E) : trSs (TB cl__law_both) (GM cl__law_both) b__law_both (UD Q E) (startU n__law_both us) G := by
  obtain ⟨p, q, ws, same, rfl, p1, p2, q1, q2, hw, hl, hs, k⟩ := h
  have hwide := W_spread (m := p) hw
  have hthin := W_stp (m := q) hw
  have hone := W_stp (m := q) hwide
  have hoth := W_spread (m := p) hthin
  have lwide : (spreadL ws p).length ≤ 64000 := by
    rw [spread_len ws p p1]
    have : ws.length * p.toNat ≤ 1000 * 64 := Nat.mul_le_mul hl (by omega)
    omega
  have lthin : (stp ws q).length ≤ 1000 := Nat.le_trans (stp_len ws q (by omega)) hl
  simp only [trSs, trS, trE, trT, trX, pl, trA, trO, trC, trI, uBin_s, uUn_s, uVar_s, uC_s, getS, setS, uOp, uAdd, uSub, uMul, uDiv, uMod, uPow, uNeg, uCmp, uEqF, uLt, uLe, uGt, uGe, uIsF, isNonU, uTru, Blt.fn, uLen, uAbs, uMax2, uMin2, uInt, uIx, startU, gam_fn, gam_gl, tab_xcs, tab_sub, UD_nx, UD_rt, UD_bk, UD_ct, UD_ex, spAt, glAt, gls, seqOf, List.map_cons, List.map_nil, List.cons_append, List.nil_append, List.length_cons, List.length_nil, List.replicate, Nat.reduceAdd, Nat.reduceSub, Nat.zero_add, reduceIte, Bool.false_eq_true, Bool.true_eq_false, Bool.false_bne, Bool.true_bne, Bool.not_true, Bool.not_false, Bool.not_not, List.reverse_cons, List.reverse_nil, Option.map_some, Option.map_none, up_same, uTuple, uList, uSet, atI_zero, atI_one, ixN_20, ixN_zero, List.set_cons_zero, uPow, b__law_both, n__law_both, trG, cl__law_both]
  refine ⟨_, _, rfl, W_ok hw, rfl, show ws.length ≤ 100000 by omega, ?_⟩
  rw [look_ok hw p1 p2]
  simp only [trSs, trS, trE, trT, trX, pl, trA, trO, trC, trI, uBin_s, uUn_s, uVar_s, uC_s, getS, setS, uOp, uAdd, uSub, uMul, uDiv, uMod, uPow, uNeg, uCmp, uEqF, uLt, uLe, uGt, uGe, uIsF, isNonU, uTru, Blt.fn, uLen, uAbs, uMax2, uMin2, uInt, uIx, startU, gam_fn, gam_gl, tab_xcs, tab_sub, UD_nx, UD_rt, UD_bk, UD_ct, UD_ex, spAt, glAt, gls, seqOf, List.map_cons, List.map_nil, List.cons_append, List.nil_append, List.length_cons, List.length_nil, List.replicate, Nat.reduceAdd, Nat.reduceSub, Nat.zero_add, reduceIte, Bool.false_eq_true, Bool.true_eq_false, Bool.false_bne, Bool.true_bne, Bool.not_true, Bool.not_false, Bool.not_not, List.reverse_cons, List.reverse_nil, Option.map_some, Option.map_none, up_same, uTuple, uList, uSet, atI_zero, atI_one, ixN_20, ixN_zero, List.set_cons_zero, uPow, tupL, intV, t7__law_both, trG, cl__law_both]
  refine ⟨_, _, rfl, W_ok hw, rfl, ?_⟩
  rw [look_ok hw q1 q2]
  simp only [trSs, trS, trE, trT, trX, pl, trA, trO, trC, trI, uBin_s, uUn_s, uVar_s, uC_s, getS, setS, uOp, uAdd, uSub, uMul, uDiv, uMod, uPow, uNeg, uCmp, uEqF, uLt, uLe, uGt, uGe, uIsF, isNonU, uTru, Blt.fn, uLen, uAbs, uMax2, uMin2, uInt, uIx, startU, gam_fn, gam_gl, tab_xcs, tab_sub, UD_nx, UD_rt, UD_bk, UD_ct, UD_ex, spAt, glAt, gls, seqOf, List.map_cons, List.map_nil, List.cons_append, List.nil_append, List.length_cons, List.length_nil, List.replicate, Nat.reduceAdd, Nat.reduceSub, Nat.zero_add, reduceIte, Bool.false_eq_true, Bool.true_eq_false, Bool.false_bne, Bool.true_bne, Bool.not_true, Bool.not_false, Bool.not_not, List.reverse_cons, List.reverse_nil, Option.map_some, Option.map_none, up_same, uTuple, uList, uSet, atI_zero, atI_one, ixN_20, ixN_zero, List.set_cons_zero, uPow, tupL, intV, t6__law_both, trG, cl__law_both]
  refine ⟨_, _, _, rfl, .inl rfl, p1, p2, by omega, fun a G1 ha l1 => ?_⟩
  refine ⟨_, _, rfl, ha, hwide, ?_⟩
  simp only [trSs, trS, trE, trT, trX, pl, trA, trO, trC, trI, uBin_s, uUn_s, uVar_s, uC_s, getS, setS, uOp, uAdd, uSub, uMul, uDiv, uMod, uPow, uNeg, uCmp, uEqF, uLt, uLe, uGt, uGe, uIsF, isNonU, uTru, Blt.fn, uLen, uAbs, uMax2, uMin2, uInt, uIx, startU, gam_fn, gam_gl, tab_xcs, tab_sub, UD_nx, UD_rt, UD_bk, UD_ct, UD_ex, spAt, glAt, gls, seqOf, List.map_cons, List.map_nil, List.cons_append, List.nil_append, List.length_cons, List.length_nil, List.replicate, Nat.reduceAdd, Nat.reduceSub, Nat.zero_add, reduceIte, Bool.false_eq_true, Bool.true_eq_false, Bool.false_bne, Bool.true_bne, Bool.not_true, Bool.not_false, Bool.not_not, List.reverse_cons, List.reverse_nil, Option.map_some, Option.map_none, up_same, uTuple, uList, uSet, atI_zero, atI_one, ixN_20, ixN_zero, List.set_cons_zero, uPow, cl__law_both]
  refine ⟨_, _, _, rfl, .inl rfl, q1, q2, by omega, fun b G2 hb l2 => ?_⟩
  refine ⟨_, _, rfl, hb, hthin, ?_⟩
  simp only [trSs, trS, trE, trT, trX, pl, trA, trO, trC, trI, uBin_s, uUn_s, uVar_s, uC_s, getS, setS, uOp, uAdd, uSub, uMul, uDiv, uMod, uPow, uNeg, uCmp, uEqF, uLt, uLe, uGt, uGe, uIsF, isNonU, uTru, Blt.fn, uLen, uAbs, uMax2, uMin2, uInt, uIx, startU, gam_fn, gam_gl, tab_xcs, tab_sub, UD_nx, UD_rt, UD_bk, UD_ct, UD_ex, spAt, glAt, gls, seqOf, List.map_cons, List.map_nil, List.cons_append, List.nil_append, List.length_cons, List.length_nil, List.replicate, Nat.reduceAdd, Nat.reduceSub, Nat.zero_add, reduceIte, Bool.false_eq_true, Bool.true_eq_false, Bool.false_bne, Bool.true_bne, Bool.not_true, Bool.not_false, Bool.not_not, List.reverse_cons, List.reverse_nil, Option.map_some, Option.map_none, up_same, uTuple, uList, uSet, atI_zero, atI_one, ixN_20, ixN_zero, List.set_cons_zero, uPow, t5__law_both, trG, cl__law_both]
  refine ⟨_, _, rfl, W_ok hwide, rfl, ?_⟩
  rw [look_ok hwide q1 q2]
  simp only [trSs, trS, trE, trT, trX, pl, trA, trO, trC, trI, uBin_s, uUn_s, uVar_s, uC_s, getS, setS, uOp, uAdd, uSub, uMul, uDiv, uMod, uPow, uNeg, uCmp, uEqF, uLt, uLe, uGt, uGe, uIsF, isNonU, uTru, Blt.fn, uLen, uAbs, uMax2, uMin2, uInt, uIx, startU, gam_fn, gam_gl, tab_xcs, tab_sub, UD_nx, UD_rt, UD_bk, UD_ct, UD_ex, spAt, glAt, gls, seqOf, List.map_cons, List.map_nil, List.cons_append, List.nil_append, List.length_cons, List.length_nil, List.replicate, Nat.reduceAdd, Nat.reduceSub, Nat.zero_add, reduceIte, Bool.false_eq_true, Bool.true_eq_false, Bool.false_bne, Bool.true_bne, Bool.not_true, Bool.not_false, Bool.not_not, List.reverse_cons, List.reverse_nil, Option.map_some, Option.map_none, up_same, uTuple, uList, uSet, atI_zero, atI_one, ixN_20, ixN_zero, List.set_cons_zero, uPow, tupL, intV, t4__law_both, trG, cl__law_both]
  refine ⟨_, _, rfl, W_ok hthin, rfl, show (stp ws q).length ≤ 100000 by omega, ?_⟩
  rw [look_ok hthin p1 p2]
  simp only [trSs, trS, trE, trT, trX, pl, trA, trO, trC, trI, uBin_s, uUn_s, uVar_s, uC_s, getS, setS, uOp, uAdd, uSub, uMul, uDiv, uMod, uPow, uNeg, uCmp, uEqF, uLt, uLe, uGt, uGe, uIsF, isNonU, uTru, Blt.fn, uLen, uAbs, uMax2, uMin2, uInt, uIx, startU, gam_fn, gam_gl, tab_xcs, tab_sub, UD_nx, UD_rt, UD_bk, UD_ct, UD_ex, spAt, glAt, gls, seqOf, List.map_cons, List.map_nil, List.cons_append, List.nil_append, List.length_cons, List.length_nil, List.replicate, Nat.reduceAdd, Nat.reduceSub, Nat.zero_add, reduceIte, Bool.false_eq_true, Bool.true_eq_false, Bool.false_bne, Bool.true_bne, Bool.not_true, Bool.not_false, Bool.not_not, List.reverse_cons, List.reverse_nil, Option.map_some, Option.map_none, up_same, uTuple, uList, uSet, atI_zero, atI_one, ixN_20, ixN_zero, List.set_cons_zero, uPow, tupL, intV, t3__law_both, trG, cl__law_both]
  refine ⟨_, _, _, rfl, .inl rfl, p1, p2, by omega, fun c G3 hc l3 => ?_⟩
  refine ⟨_, _, _, rfl, .inr ⟨c, rfl, hc⟩, q1, q2, by omega, fun d G4 hd l4 => ?_⟩
  refine ⟨_, _, rfl, hd, hone, ?_⟩
  simp only [trSs, trS, trE, trT, trX, pl, trA, trO, trC, trI, uBin_s, uUn_s, uVar_s, uC_s, getS, setS, uOp, uAdd, uSub, uMul, uDiv, uMod, uPow, uNeg, uCmp, uEqF, uLt, uLe, uGt, uGe, uIsF, isNonU, uTru, Blt.fn, uLen, uAbs, uMax2, uMin2, uInt, uIx, startU, gam_fn, gam_gl, tab_xcs, tab_sub, UD_nx, UD_rt, UD_bk, UD_ct, UD_ex, spAt, glAt, gls, seqOf, List.map_cons, List.map_nil, List.cons_append, List.nil_append, List.length_cons, List.length_nil, List.replicate, Nat.reduceAdd, Nat.reduceSub, Nat.zero_add, reduceIte, Bool.false_eq_true, Bool.true_eq_false, Bool.false_bne, Bool.true_bne, Bool.not_true, Bool.not_false, Bool.not_not, List.reverse_cons, List.reverse_nil, Option.map_some, Option.map_none, up_same, uTuple, uList, uSet, atI_zero, atI_one, ixN_20, ixN_zero, List.set_cons_zero, uPow, t2__law_both, trG, cl__law_both]
  refine ⟨_, _, _, rfl, .inl rfl, q1, q2, by omega, fun e G5 he l5 => ?_⟩
  refine ⟨_, _, _, rfl, .inr ⟨e, rfl, he⟩, p1, p2, by omega, fun f G6 hf l6 => ?_⟩
  refine ⟨_, _, rfl, hf, hoth, ?_⟩
  have lall : Le G G6 := ((((l1.trans l2).trans l3).trans l4).trans l5).trans l6
  simp only [trSs, trS, trE, trT, trX, pl, trA, trO, trC, trI, uBin_s, uUn_s, uVar_s, uC_s, getS, setS, uOp, uAdd, uSub, uMul, uDiv, uMod, uPow, uNeg, uCmp, uEqF, uLt, uLe, uGt, uGe, uIsF, isNonU, uTru, Blt.fn, uLen, uAbs, uMax2, uMin2, uInt, uIx, startU, gam_fn, gam_gl, tab_xcs, tab_sub, UD_nx, UD_rt, UD_bk, UD_ct, UD_ex, spAt, glAt, gls, seqOf, List.map_cons, List.map_nil, List.cons_append, List.nil_append, List.length_cons, List.length_nil, List.replicate, Nat.reduceAdd, Nat.reduceSub, Nat.zero_add, reduceIte, Bool.false_eq_true, Bool.true_eq_false, Bool.false_bne, Bool.true_bne, Bool.not_true, Bool.not_false, Bool.not_not, List.reverse_cons, List.reverse_nil, Option.map_some, Option.map_none, up_same, uTuple, uList, uSet, atI_zero, atI_one, ixN_20, ixN_zero, List.set_cons_zero, uPow, t1__law_both]
  rcases hs with rfl | ⟨b, rfl, hb⟩
  · simp only [trSs, trS, trE, trT, trX, pl, trA, trO, trC, trI, uBin_s, uUn_s, uVar_s, uC_s, getS, setS, uOp, uAdd, uSub, uMul, uDiv, uMod, uPow, uNeg, uCmp, uEqF, uLt, uLe, uGt, uGe, uIsF, isNonU, uTru, Blt.fn, uLen, uAbs, uMax2, uMin2, uInt, uIx, startU, gam_fn, gam_gl, tab_xcs, tab_sub, UD_nx, UD_rt, UD_bk, UD_ct, UD_ex, spAt, glAt, gls, seqOf, List.map_cons, List.map_nil, List.cons_append, List.nil_append, List.length_cons, List.length_nil, List.replicate, Nat.reduceAdd, Nat.reduceSub, Nat.zero_add, reduceIte, Bool.false_eq_true, Bool.true_eq_false, Bool.false_bne, Bool.true_bne, Bool.not_true, Bool.not_false, Bool.not_not, List.reverse_cons, List.reverse_nil, Option.map_some, Option.map_none, up_same, uTuple, uList, uSet, atI_zero, atI_one, ixN_20, ixN_zero, List.set_cons_zero, uPow]
    exact fin.of (k _ lall)
  · simp only [trSs, trS, trE, trT, trX, pl, trA, trO, trC, trI, uBin_s, uUn_s, uVar_s, uC_s, getS, setS, uOp, uAdd, uSub, uMul, uDiv, uMod, uPow, uNeg, uCmp, uEqF, uLt, uLe, uGt, uGe, uIsF, isNonU, uTru, Blt.fn, uLen, uAbs, uMax2, uMin2, uInt, uIx, startU, gam_fn, gam_gl, tab_xcs, tab_sub, UD_nx, UD_rt, UD_bk, UD_ct, UD_ex, spAt, glAt, gls, seqOf, List.map_cons, List.map_nil, List.cons_append, List.nil_append, List.length_cons, List.length_nil, List.replicate, Nat.reduceAdd, Nat.reduceSub, Nat.zero_add, reduceIte, Bool.false_eq_true, Bool.true_eq_false, Bool.false_bne, Bool.true_bne, Bool.not_true, Bool.not_false, Bool.not_not, List.reverse_cons, List.reverse_nil, Option.map_some, Option.map_none, up_same, uTuple, uList, uSet, atI_zero, atI_one, ixN_20, ixN_zero, List.set_cons_zero, uPow]
    rw [(ints_W hone).1, (ints_W hoth).1]
    have key : decide ((stp (spreadL ws p) q).map intV = (spreadL (stp ws q) p).map intV) = b := by
      have e1 : (stp (spreadL ws p) q).map intV = (spreadL (stp ws q) p).map intV ↔ stp (spreadL ws p) q = spreadL (stp ws q) p := by
        constructor
        · intro z
          rw [(ints_W hone).1, (ints_W hoth).1, z]
        · intro z
          rw [z]
      cases b with
      | true => exact decide_eq_true (e1.mpr (hb.mpr rfl))
      | false => exact decide_eq_false fun z => by cases hb.mp (e1.mp z)
    rw [dOf_tup, dOf_tup]
    refine ⟨shaped_tup _, shaped_tup _, ?_⟩
    rw [eqv_tup, key]
    simp only [trSs, trS, trE, trT, trX, pl, trA, trO, trC, trI, uBin_s, uUn_s, uVar_s, uC_s, getS, setS, uOp, uAdd, uSub, uMul, uDiv, uMod, uPow, uNeg, uCmp, uEqF, uLt, uLe, uGt, uGe, uIsF, isNonU, uTru, Blt.fn, uLen, uAbs, uMax2, uMin2, uInt, uIx, startU, gam_fn, gam_gl, tab_xcs, tab_sub, UD_nx, UD_rt, UD_bk, UD_ct, UD_ex, spAt, glAt, gls, seqOf, List.map_cons, List.map_nil, List.cons_append, List.nil_append, List.length_cons, List.length_nil, List.replicate, Nat.reduceAdd, Nat.reduceSub, Nat.zero_add, reduceIte, Bool.false_eq_true, Bool.true_eq_false, Bool.false_bne, Bool.true_bne, Bool.not_true, Bool.not_false, Bool.not_not, List.reverse_cons, List.reverse_nil, Option.map_some, Option.map_none, up_same, uTuple, uList, uSet, atI_zero, atI_one, ixN_20, ixN_zero, List.set_cons_zero, uPow, decide_true]
    exact fin.of (k _ lall)
end K71
set_option Elab.async false
set_option linter.all false
set_option autoImplicit false
set_option maxRecDepth 100000
set_option maxHeartbeats 4000000
namespace K71
open PySem PySem.Spec L2 UL
/-! ### _law_places -/
def sp__law_places : USp := fun us G Q _ => ∃ p g, us = [.ref p] ∧ Pur G p g ∧ ∀ G', Pur G' p g → Q (.bl true) G'
def cl__law_places : List (Str × USp) := [("_law_pair", sp__law_pair), ("_law_common", sp__law_common), ("_law_pick", sp__law_pick), ("_law_worth", sp__law_worth), ("_law_both", sp__law_both)]
theorem W_take {ws : List U} {lo hi : Option Int} (h : ws.all isW = true) : (cutU ws lo hi).all isW = true ∧ (cutU ws lo hi).length ≤ ws.length := by
  constructor
  · rw [List.all_eq_true] at h ⊢
    intro x hx
    unfold cutU at hx
    exact h x (List.mem_of_mem_drop (List.mem_of_mem_take hx))
  · unfold cutU
    simp only [List.length_take, List.length_drop]
    omega
theorem w__law_places (us : List U) (G : UH) (Q : UK) (E : UXn → UH → Prop) (h : sp__law_places us G Q E) : trSs (TB cl__law_places) (GM cl__law_places) b__law_places (UD Q E) (startU n__law_places us) G := by
  obtain ⟨pp, g, rfl, hP, k⟩ := h
  have lg := line_ge
  simp only [trSs, trS, trE, trT, trX, pl, trA, trO, trC, trI, uBin_s, uUn_s, uVar_s, uC_s, getS, setS, uOp, uAdd, uSub, uMul, uDiv, uMod, uPow, uNeg, uCmp, uEqF, uLt, uLe, uGt, uGe, uIsF, isNonU, uTru, Blt.fn, uLen, uAbs, uMax2, uMin2, uInt, uIx, startU, gam_fn, gam_gl, tab_xcs, tab_sub, UD_nx, UD_rt, UD_bk, UD_ct, UD_ex, spAt, glAt, gls, seqOf, List.map_cons, List.map_nil, List.cons_append, List.nil_append, List.length_cons, List.length_nil, List.replicate, Nat.reduceAdd, Nat.reduceSub, Nat.zero_add, reduceIte, Bool.false_eq_true, Bool.true_eq_false, Bool.false_bne, Bool.true_bne, Bool.not_true, Bool.not_false, Bool.not_not, List.reverse_cons, List.reverse_nil, Option.map_some, Option.map_none, up_same, uTuple, uList, uSet, atI_zero, atI_one, ixN_20, ixN_zero, List.set_cons_zero, uPow, b__law_places, n__law_places, trG, cl__law_places]
  refine ⟨pp, g, rfl, hP, fun p y G1 p1 p2 y1 y2 hP1 _ => ?_⟩
  simp only [trSs, trS, trE, trT, trX, pl, trA, trO, trC, trI, uBin_s, uUn_s, uVar_s, uC_s, getS, setS, uOp, uAdd, uSub, uMul, uDiv, uMod, uPow, uNeg, uCmp, uEqF, uLt, uLe, uGt, uGe, uIsF, isNonU, uTru, Blt.fn, uLen, uAbs, uMax2, uMin2, uInt, uIx, startU, gam_fn, gam_gl, tab_xcs, tab_sub, UD_nx, UD_rt, UD_bk, UD_ct, UD_ex, spAt, glAt, gls, seqOf, List.map_cons, List.map_nil, List.cons_append, List.nil_append, List.length_cons, List.length_nil, List.replicate, Nat.reduceAdd, Nat.reduceSub, Nat.zero_add, reduceIte, Bool.false_eq_true, Bool.true_eq_false, Bool.false_bne, Bool.true_bne, Bool.not_true, Bool.not_false, Bool.not_not, List.reverse_cons, List.reverse_nil, Option.map_some, Option.map_none, up_same, uTuple, uList, uSet, atI_zero, atI_one, ixN_20, ixN_zero, List.set_cons_zero, uPow, t9__law_places, trG]
  simp only [trSs, trS, trE, trT, trX, pl, trA, trO, trC, trI, uBin_s, uUn_s, uVar_s, uC_s, getS, setS, uOp, uAdd, uSub, uMul, uDiv, uMod, uPow, uNeg, uCmp, uEqF, uLt, uLe, uGt, uGe, uIsF, isNonU, uTru, Blt.fn, uLen, uAbs, uMax2, uMin2, uInt, uIx, startU, gam_fn, gam_gl, tab_xcs, tab_sub, UD_nx, UD_rt, UD_bk, UD_ct, UD_ex, spAt, glAt, gls, seqOf, List.map_cons, List.map_nil, List.cons_append, List.nil_append, List.length_cons, List.length_nil, List.replicate, Nat.reduceAdd, Nat.reduceSub, Nat.zero_add, reduceIte, Bool.false_eq_true, Bool.true_eq_false, Bool.false_bne, Bool.true_bne, Bool.not_true, Bool.not_false, Bool.not_not, List.reverse_cons, List.reverse_nil, Option.map_some, Option.map_none, up_same, uTuple, uList, uSet, atI_zero, atI_one, ixN_20, ixN_zero, List.set_cons_zero, uPow, t8__law_places, trG]
  refine ⟨divS (by omega) (by omega), ?_⟩
  have hq1 : 1 ≤ min y (4000 / p) := by
    have : (1 : Int) ≤ 4000 / p := (Int.le_ediv_iff_mul_le (by omega)).mpr (by omega)
    omega
  have hq2 : min y (4000 / p) ≤ 64 := by omega
  generalize min y (4000 / p) = q at hq1 hq2
  have pq1 : 1 ≤ p * q := by
    have := Int.mul_le_mul p1 hq1 (by omega) (by omega)
    omega
  have pq2 : p * q ≤ 64 * 64 := Int.mul_le_mul p2 hq2 (by omega) (by omega)
  simp only [trSs, trS, trE, trT, trX, pl, trA, trO, trC, trI, uBin_s, uUn_s, uVar_s, uC_s, getS, setS, uOp, uAdd, uSub, uMul, uDiv, uMod, uPow, uNeg, uCmp, uEqF, uLt, uLe, uGt, uGe, uIsF, isNonU, uTru, Blt.fn, uLen, uAbs, uMax2, uMin2, uInt, uIx, startU, gam_fn, gam_gl, tab_xcs, tab_sub, UD_nx, UD_rt, UD_bk, UD_ct, UD_ex, spAt, glAt, gls, seqOf, List.map_cons, List.map_nil, List.cons_append, List.nil_append, List.length_cons, List.length_nil, List.replicate, Nat.reduceAdd, Nat.reduceSub, Nat.zero_add, reduceIte, Bool.false_eq_true, Bool.true_eq_false, Bool.false_bne, Bool.true_bne, Bool.not_true, Bool.not_false, Bool.not_not, List.reverse_cons, List.reverse_nil, Option.map_some, Option.map_none, up_same, uTuple, uList, uSet, atI_zero, atI_one, ixN_20, ixN_zero, List.set_cons_zero, uPow, t7__law_places, trG, cl__law_places]
  refine ⟨p, q, rfl, p1, p2, hq1, ?_⟩
  simp only [trSs, trS, trE, trT, trX, pl, trA, trO, trC, trI, uBin_s, uUn_s, uVar_s, uC_s, getS, setS, uOp, uAdd, uSub, uMul, uDiv, uMod, uPow, uNeg, uCmp, uEqF, uLt, uLe, uGt, uGe, uIsF, isNonU, uTru, Blt.fn, uLen, uAbs, uMax2, uMin2, uInt, uIx, startU, gam_fn, gam_gl, tab_xcs, tab_sub, UD_nx, UD_rt, UD_bk, UD_ct, UD_ex, spAt, glAt, gls, seqOf, List.map_cons, List.map_nil, List.cons_append, List.nil_append, List.length_cons, List.length_nil, List.replicate, Nat.reduceAdd, Nat.reduceSub, Nat.zero_add, reduceIte, Bool.false_eq_true, Bool.true_eq_false, Bool.false_bne, Bool.true_bne, Bool.not_true, Bool.not_false, Bool.not_not, List.reverse_cons, List.reverse_nil, Option.map_some, Option.map_none, up_same, uTuple, uList, uSet, atI_zero, atI_one, ixN_20, ixN_zero, List.set_cons_zero, uPow, t6__law_places, trG, cl__law_places]
  refine ⟨mulL (by omega) (by omega), divS (by omega) (by omega), ?_⟩
  have hm0 : 0 ≤ 400 / (p * q) := Int.ediv_nonneg (by omega) (by omega)
  generalize 400 / (p * q) = m at hm0
  refine ⟨pp, g, _, rfl, hP1, by omega, by omega, fun r G2 r0 r1 hP2 _ => ?_⟩
  refine ⟨mulL (by omega) (by omega), ?_⟩
  have hs0 : 0 ≤ q * r := Int.mul_nonneg (by omega) r0
  have hs1 : q * r ≤ 64 * 6 := Int.mul_le_mul hq2 (by omega) r0 (by omega)
  simp only [trSs, trS, trE, trT, trX, pl, trA, trO, trC, trI, uBin_s, uUn_s, uVar_s, uC_s, getS, setS, uOp, uAdd, uSub, uMul, uDiv, uMod, uPow, uNeg, uCmp, uEqF, uLt, uLe, uGt, uGe, uIsF, isNonU, uTru, Blt.fn, uLen, uAbs, uMax2, uMin2, uInt, uIx, startU, gam_fn, gam_gl, tab_xcs, tab_sub, UD_nx, UD_rt, UD_bk, UD_ct, UD_ex, spAt, glAt, gls, seqOf, List.map_cons, List.map_nil, List.cons_append, List.nil_append, List.length_cons, List.length_nil, List.replicate, Nat.reduceAdd, Nat.reduceSub, Nat.zero_add, reduceIte, Bool.false_eq_true, Bool.true_eq_false, Bool.false_bne, Bool.true_bne, Bool.not_true, Bool.not_false, Bool.not_not, List.reverse_cons, List.reverse_nil, Option.map_some, Option.map_none, up_same, uTuple, uList, uSet, atI_zero, atI_one, ixN_20, ixN_zero, List.set_cons_zero, uPow, t5__law_places, trG, cl__law_places]
  refine ⟨by unfold small62; omega, ?_⟩
  rw [rangeU_map]
  intro pa hpa
  have hne := hP2.ne hpa
  refine lcU_acc (fun G => Pur G pp g) (fun u => isW u = true) (fun G acc h => h.upn hne.1 hne.2) (q * r).toNat (by omega) ?_ _ [] _ (by rw [List.length_map, rangeI_len]; simp) (hP2.upf hpa) up_same (by simp) ?_
  · intro G3 ws hP3 hws hW hlen
    have hall : ws.all isW = true := List.all_eq_true.mpr hW
    simp only [trSs, trS, trE, trT, trX, pl, trA, trO, trC, trI, uBin_s, uUn_s, uVar_s, uC_s, getS, setS, uOp, uAdd, uSub, uMul, uDiv, uMod, uPow, uNeg, uCmp, uEqF, uLt, uLe, uGt, uGe, uIsF, isNonU, uTru, Blt.fn, uLen, uAbs, uMax2, uMin2, uInt, uIx, startU, gam_fn, gam_gl, tab_xcs, tab_sub, UD_nx, UD_rt, UD_bk, UD_ct, UD_ex, spAt, glAt, gls, seqOf, List.map_cons, List.map_nil, List.cons_append, List.nil_append, List.length_cons, List.length_nil, List.replicate, Nat.reduceAdd, Nat.reduceSub, Nat.zero_add, reduceIte, Bool.false_eq_true, Bool.true_eq_false, Bool.false_bne, Bool.true_bne, Bool.not_true, Bool.not_false, Bool.not_not, List.reverse_cons, List.reverse_nil, Option.map_some, Option.map_none, up_same, uTuple, uList, uSet, atI_zero, atI_one, ixN_20, ixN_zero, List.set_cons_zero, uPow, hws]
    simp only [trSs, trS, trE, trT, trX, pl, trA, trO, trC, trI, uBin_s, uUn_s, uVar_s, uC_s, getS, setS, uOp, uAdd, uSub, uMul, uDiv, uMod, uPow, uNeg, uCmp, uEqF, uLt, uLe, uGt, uGe, uIsF, isNonU, uTru, Blt.fn, uLen, uAbs, uMax2, uMin2, uInt, uIx, startU, gam_fn, gam_gl, tab_xcs, tab_sub, UD_nx, UD_rt, UD_bk, UD_ct, UD_ex, spAt, glAt, gls, seqOf, List.map_cons, List.map_nil, List.cons_append, List.nil_append, List.length_cons, List.length_nil, List.replicate, Nat.reduceAdd, Nat.reduceSub, Nat.zero_add, reduceIte, Bool.false_eq_true, Bool.true_eq_false, Bool.false_bne, Bool.true_bne, Bool.not_true, Bool.not_false, Bool.not_not, List.reverse_cons, List.reverse_nil, Option.map_some, Option.map_none, up_same, uTuple, uList, uSet, atI_zero, atI_one, ixN_20, ixN_zero, List.set_cons_zero, uPow, t4__law_places, trG]
    have fin1 : ∀ (same : U) (al : Bool), (al = true ↔ gcdI p q = 1) → (same = .non ∨ ∃ b, same = .bl b ∧ (stp (spreadL ws p) q = spreadL (stp ws q) p ↔ b = true)) → trSs (TB cl__law_places) (GM cl__law_places) t2__law_places (UD Q E) [some (.ref pp), some (.tup [.int p, .int y]), some (.int p), some (.int q), some (.bl al), some (.int (q * r)), some (.tup ws), none, some same] G3 := by
      intro same al hal hsame
      simp only [trSs, trS, trE, trT, trX, pl, trA, trO, trC, trI, uBin_s, uUn_s, uVar_s, uC_s, getS, setS, uOp, uAdd, uSub, uMul, uDiv, uMod, uPow, uNeg, uCmp, uEqF, uLt, uLe, uGt, uGe, uIsF, isNonU, uTru, Blt.fn, uLen, uAbs, uMax2, uMin2, uInt, uIx, startU, gam_fn, gam_gl, tab_xcs, tab_sub, UD_nx, UD_rt, UD_bk, UD_ct, UD_ex, spAt, glAt, gls, seqOf, List.map_cons, List.map_nil, List.cons_append, List.nil_append, List.length_cons, List.length_nil, List.replicate, Nat.reduceAdd, Nat.reduceSub, Nat.zero_add, reduceIte, Bool.false_eq_true, Bool.true_eq_false, Bool.false_bne, Bool.true_bne, Bool.not_true, Bool.not_false, Bool.not_not, List.reverse_cons, List.reverse_nil, Option.map_some, Option.map_none, up_same, uTuple, uList, uSet, atI_zero, atI_one, ixN_20, ixN_zero, List.set_cons_zero, uPow, t2__law_places, cl__law_places]
      refine ⟨p, q, ws, same, rfl, p1, p2, hq1, hq2, hall, by omega, hsame, fun G4 l4 => ?_⟩
      simp only [trSs, trS, trE, trT, trX, pl, trA, trO, trC, trI, uBin_s, uUn_s, uVar_s, uC_s, getS, setS, uOp, uAdd, uSub, uMul, uDiv, uMod, uPow, uNeg, uCmp, uEqF, uLt, uLe, uGt, uGe, uIsF, isNonU, uTru, Blt.fn, uLen, uAbs, uMax2, uMin2, uInt, uIx, startU, gam_fn, gam_gl, tab_xcs, tab_sub, UD_nx, UD_rt, UD_bk, UD_ct, UD_ex, spAt, glAt, gls, seqOf, List.map_cons, List.map_nil, List.cons_append, List.nil_append, List.length_cons, List.length_nil, List.replicate, Nat.reduceAdd, Nat.reduceSub, Nat.zero_add, reduceIte, Bool.false_eq_true, Bool.true_eq_false, Bool.false_bne, Bool.true_bne, Bool.not_true, Bool.not_false, Bool.not_not, List.reverse_cons, List.reverse_nil, Option.map_some, Option.map_none, up_same, uTuple, uList, uSet, atI_zero, atI_one, ixN_20, ixN_zero, List.set_cons_zero, uPow]
      refine ⟨by omega, by simp, by omega, by omega, by decide, ?_⟩
      rw [rep_flat]
      refine ⟨p, q, _, _, rfl, p1, p2, hq1, hq2, ?_, by rw [List.length_replicate]; omega, .inr ⟨al, rfl, ?_⟩, fun G5 l5 => ?_⟩
      · rw [List.all_eq_true]
        intro x hx
        rw [List.eq_of_mem_replicate hx]
        rfl
      · rw [hal]
        constructor
        · intro z
          by_cases c : gcdI p q = 1
          · exact c
          · exact absurd z (comm_ne p1 hq1 c)
        · intro z
          exact comm_eq (n := 1) p1 hq1 (by rw [List.length_replicate, Nat.one_mul]) z
      · simp only [trSs, trS, trE, trT, trX, pl, trA, trO, trC, trI, uBin_s, uUn_s, uVar_s, uC_s, getS, setS, uOp, uAdd, uSub, uMul, uDiv, uMod, uPow, uNeg, uCmp, uEqF, uLt, uLe, uGt, uGe, uIsF, isNonU, uTru, Blt.fn, uLen, uAbs, uMax2, uMin2, uInt, uIx, startU, gam_fn, gam_gl, tab_xcs, tab_sub, UD_nx, UD_rt, UD_bk, UD_ct, UD_ex, spAt, glAt, gls, seqOf, List.map_cons, List.map_nil, List.cons_append, List.nil_append, List.length_cons, List.length_nil, List.replicate, Nat.reduceAdd, Nat.reduceSub, Nat.zero_add, reduceIte, Bool.false_eq_true, Bool.true_eq_false, Bool.false_bne, Bool.true_bne, Bool.not_true, Bool.not_false, Bool.not_not, List.reverse_cons, List.reverse_nil, Option.map_some, Option.map_none, up_same, uTuple, uList, uSet, atI_zero, atI_one, ixN_20, ixN_zero, List.set_cons_zero, uPow, t1__law_places, cl__law_places]
        refine ⟨pp, g, _, rfl, (hP3.le l4).le l5, by omega, by omega, fun c G6 c0 c1 hP6 _ => ?_⟩
        obtain ⟨hc1, hc2⟩ := W_take (lo := none) (hi := some c) hall
        simp only [trSs, trS, trE, trT, trX, pl, trA, trO, trC, trI, uBin_s, uUn_s, uVar_s, uC_s, getS, setS, uOp, uAdd, uSub, uMul, uDiv, uMod, uPow, uNeg, uCmp, uEqF, uLt, uLe, uGt, uGe, uIsF, isNonU, uTru, Blt.fn, uLen, uAbs, uMax2, uMin2, uInt, uIx, startU, gam_fn, gam_gl, tab_xcs, tab_sub, UD_nx, UD_rt, UD_bk, UD_ct, UD_ex, spAt, glAt, gls, seqOf, List.map_cons, List.map_nil, List.cons_append, List.nil_append, List.length_cons, List.length_nil, List.replicate, Nat.reduceAdd, Nat.reduceSub, Nat.zero_add, reduceIte, Bool.false_eq_true, Bool.true_eq_false, Bool.false_bne, Bool.true_bne, Bool.not_true, Bool.not_false, Bool.not_not, List.reverse_cons, List.reverse_nil, Option.map_some, Option.map_none, up_same, uTuple, uList, uSet, atI_zero, atI_one, ixN_20, ixN_zero, List.set_cons_zero, uPow]
        exact ⟨p, q, _, _, rfl, p1, p2, hq1, hq2, hc1, by omega, .inl rfl, fun G7 l7 => fin.of (k G7 (hP6.le l7))⟩
    by_cases c : gcdI p q = 1
    · simp only [trSs, trS, trE, trT, trX, pl, trA, trO, trC, trI, uBin_s, uUn_s, uVar_s, uC_s, getS, setS, uOp, uAdd, uSub, uMul, uDiv, uMod, uPow, uNeg, uCmp, uEqF, uLt, uLe, uGt, uGe, uIsF, isNonU, uTru, Blt.fn, uLen, uAbs, uMax2, uMin2, uInt, uIx, startU, gam_fn, gam_gl, tab_xcs, tab_sub, UD_nx, UD_rt, UD_bk, UD_ct, UD_ex, spAt, glAt, gls, seqOf, List.map_cons, List.map_nil, List.cons_append, List.nil_append, List.length_cons, List.length_nil, List.replicate, Nat.reduceAdd, Nat.reduceSub, Nat.zero_add, reduceIte, Bool.false_eq_true, Bool.true_eq_false, Bool.false_bne, Bool.true_bne, Bool.not_true, Bool.not_false, Bool.not_not, List.reverse_cons, List.reverse_nil, Option.map_some, Option.map_none, up_same, uTuple, uList, uSet, atI_zero, atI_one, ixN_20, ixN_zero, List.set_cons_zero, uPow, c, decide_true, t3__law_places, trG]
      refine fin1 _ true (by simp [c]) (.inr ⟨true, rfl, ?_⟩)
      have : stp (spreadL ws p) q = spreadL (stp ws q) p := comm_eq (n := r.toNat) p1 hq1 (by
        rw [hlen]
        obtain ⟨a, rfl⟩ := Int.eq_ofNat_of_zero_le r0
        obtain ⟨b, rfl⟩ := Int.eq_ofNat_of_zero_le (show 0 ≤ q by omega)
        rw [← Int.natCast_mul, Int.toNat_natCast, Int.toNat_natCast, Int.toNat_natCast, Nat.mul_comm]) c
      simp [this]
    · simp only [trSs, trS, trE, trT, trX, pl, trA, trO, trC, trI, uBin_s, uUn_s, uVar_s, uC_s, getS, setS, uOp, uAdd, uSub, uMul, uDiv, uMod, uPow, uNeg, uCmp, uEqF, uLt, uLe, uGt, uGe, uIsF, isNonU, uTru, Blt.fn, uLen, uAbs, uMax2, uMin2, uInt, uIx, startU, gam_fn, gam_gl, tab_xcs, tab_sub, UD_nx, UD_rt, UD_bk, UD_ct, UD_ex, spAt, glAt, gls, seqOf, List.map_cons, List.map_nil, List.cons_append, List.nil_append, List.length_cons, List.length_nil, List.replicate, Nat.reduceAdd, Nat.reduceSub, Nat.zero_add, reduceIte, Bool.false_eq_true, Bool.true_eq_false, Bool.false_bne, Bool.true_bne, Bool.not_true, Bool.not_false, Bool.not_not, List.reverse_cons, List.reverse_nil, Option.map_some, Option.map_none, up_same, uTuple, uList, uSet, atI_zero, atI_one, ixN_20, ixN_zero, List.set_cons_zero, uPow, c, decide_false, t3__law_places, trG]
      exact fin1 _ false (by simp [c]) (.inl rfl)
  · intro y hy acc G3 K1 K0 hP3 hacc kk
    simp only [trSs, trS, trE, trT, trX, pl, trA, trO, trC, trI, uBin_s, uUn_s, uVar_s, uC_s, getS, setS, uOp, uAdd, uSub, uMul, uDiv, uMod, uPow, uNeg, uCmp, uEqF, uLt, uLe, uGt, uGe, uIsF, isNonU, uTru, Blt.fn, uLen, uAbs, uMax2, uMin2, uInt, uIx, startU, gam_fn, gam_gl, tab_xcs, tab_sub, UD_nx, UD_rt, UD_bk, UD_ct, UD_ex, spAt, glAt, gls, seqOf, List.map_cons, List.map_nil, List.cons_append, List.nil_append, List.length_cons, List.length_nil, List.replicate, Nat.reduceAdd, Nat.reduceSub, Nat.zero_add, reduceIte, Bool.false_eq_true, Bool.true_eq_false, Bool.false_bne, Bool.true_bne, Bool.not_true, Bool.not_false, Bool.not_not, List.reverse_cons, List.reverse_nil, Option.map_some, Option.map_none, up_same, uTuple, uList, uSet, atI_zero, atI_one, ixN_20, ixN_zero, List.set_cons_zero, uPow, slotsG, slotsGs, wipeU, trG, cl__law_places]
    refine ⟨pp, g, rfl, hP3, fun r G4 r0 r1 hP4 f4 => kk _ _ ?_ hP4 (f4 _ _ hne.1.symm hne.2.symm hacc)⟩
    simp [isW, r0, r1]
end K71
set_option Elab.async false
set_option linter.all false
set_option autoImplicit false
set_option maxRecDepth 100000
set_option maxHeartbeats 4000000
namespace K71
open PySem PySem.Spec L2 UL
/-! ### _law_bins -/
def binL (hs : List Int) (up k : Int) : List Int := (List.range up.toNat).map fun (r : Nat) => binS (fun j => hs.getD j.toNat 0) up (r : Int) k
def binsL (hs : List Int) (up : Int) : List Int := (List.range up.toNat).map fun (r : Nat) => binI hs up (r : Int)
theorem binL_end (hs : List Int) (up : Int) : binL hs up hs.length = binsL hs up := rfl
theorem binL_len (hs : List Int) (up k : Int) : (binL hs up k).length = up.toNat := by simp [binL]
theorem binL_zero (hs : List Int) {up : Int} (hu : 1 ≤ up) : binL hs up 0 = List.replicate up.toNat 0 := by
  rw [List.eq_replicate_iff]
  refine ⟨binL_len _ _ _, fun x hx => ?_⟩
  obtain ⟨r, _, rfl⟩ := List.mem_map.mp hx
  exact binS_zero _ hu (by omega)
theorem binL_get {hs : List Int} {up k r : Int} (h0 : 0 ≤ r) (h1 : r < up) : (binL hs up k).getD r.toNat 0 = binS (fun j => hs.getD j.toNat 0) up r k := by
  unfold binL
  rw [List.getD_eq_getElem?_getD, List.getElem?_map, List.getElem?_range (by omega)]
  simp only [Option.map_some, Option.getD_some]
  rw [Int.toNat_of_nonneg h0]
theorem binL_succ {hs : List Int} {up k : Int} (hu : 1 ≤ up) (hk : 0 ≤ k) : (binL hs up k).set (k % up).toNat ((binL hs up k).getD (k % up).toNat 0 + hs.getD k.toNat 0) = binL hs up (k + 1) := by
  have m0 := Int.emod_nonneg k (show up ≠ 0 by omega)
  have m1 := Int.emod_lt_of_pos k (show 0 < up by omega)
  rw [binL_get m0 m1]
  apply List.ext_getElem?
  intro i
  rw [List.getElem?_set, binL_len]
  unfold binL
  rw [List.getElem?_map, List.getElem?_map]
  by_cases c : i < up.toNat
  · rw [List.getElem?_range c]
    simp only [Option.map_some]
    have := binS_succ (fun j => hs.getD j.toNat 0) hu (r := (i : Int)) (k := k) (by omega) (by omega) hk
    rw [this]
    by_cases c2 : (k % up).toNat = i
    · have e : k % up = (i : Int) := by omega
      rw [if_pos c2, if_pos (by omega), if_pos e, e]
    · have e : ¬ k % up = (i : Int) := by omega
      rw [if_neg c2, if_neg e, Int.add_zero]
  · rw [List.getElem?_eq_none (l := List.range up.toNat) (by rw [List.length_range]; omega)]
    rw [if_neg (by omega)]
    rfl
theorem mod_sub (k up : Int) : k - k / up * up = k % up := by
  rw [Int.emod_def, Int.mul_comm]
def sp__law_bins : USp := fun us G Q _ => ∃ (up : Int) (hs : List Int), us = [.int up, .tup (hs.map U.int)] ∧ 1 ≤ up ∧ up ≤ 64 ∧ hs.length ≤ 64 ∧ ∀ p G', G p = none → G' p = some (.lst ((binsL hs up).map U.int)) → Le G G' → Q (.ref p) G'
def cl__law_bins : List (Str × USp) := []
theorem l__law_bins {G0 : UH} {hs : List Int} {up : Int} {p : Addr} (h1 : 1 ≤ up) (h2 : up ≤ 64) (hl : hs.length ≤ 64) (hp0 : G0 p = none) (D : UE) (qn : ∀ o o2 G, Le G0 G → G p = some (.lst ((binsL hs up).map U.int)) → D.nx [some (.int up), some (.tup (hs.map U.int)), some (.ref p), o, o2] G) :
    ∀ (n : Nat) (k : Int) (o o2 : Option U) (G : UH), 0 ≤ k → k + n = hs.length → Le G0 G → G p = some (.lst ((binL hs up k).map U.int)) →
    forU [] (trG (.nm 3)) (trSs (TB cl__law_bins) (GM cl__law_bins) l1__law_bins) D (List.map U.int (rangeI k 1 n)) [some (.int up), some (.tup (hs.map U.int)), some (.ref p), o, o2] G
  | 0, k, o, o2, G, k0, hk, l, hp => ⟨trivial, qn o o2 G l (by rw [← binL_end, ← hk]; simpa using hp)⟩
  | n + 1, k, o, o2, G, k0, hk, l, hp => by
    have next : ∀ o o2 G, Le G0 G → G p = some (.lst ((binL hs up (k + 1)).map U.int)) → forU [] (trG (.nm 3)) (trSs (TB cl__law_bins) (GM cl__law_bins) l1__law_bins) D (List.map U.int (rangeI (k + 1) 1 n)) [some (.int up), some (.tup (hs.map U.int)), some (.ref p), o, o2] G := fun o o2 G l hp => l__law_bins h1 h2 hl hp0 D qn n (k + 1) o o2 G (by omega) (by omega) l hp
    have m0 := Int.emod_nonneg k (show up ≠ 0 by omega)
    have m1 := Int.emod_lt_of_pos k (show 0 < up by omega)
    refine ⟨trivial, ?_⟩
    generalize hT : forU _ _ _ D (List.map U.int (rangeI (k + 1) 1 n)) = T at next
    simp only [trSs, trS, trE, trT, trX, pl, trA, trO, trC, trI, uBin_s, uUn_s, uVar_s, uC_s, getS, setS, uOp, uAdd, uSub, uMul, uDiv, uMod, uPow, uNeg, uCmp, uEqF, uLt, uLe, uGt, uGe, uIsF, isNonU, uTru, Blt.fn, uLen, uAbs, uMax2, uMin2, uInt, uIx, startU, gam_fn, gam_gl, tab_xcs, tab_sub, UD_nx, UD_rt, UD_bk, UD_ct, UD_ex, spAt, glAt, gls, seqOf, List.map_cons, List.map_nil, List.cons_append, List.nil_append, List.length_cons, List.length_nil, List.replicate, Nat.reduceAdd, Nat.reduceSub, Nat.zero_add, reduceIte, Bool.false_eq_true, Bool.true_eq_false, Bool.false_bne, Bool.true_bne, Bool.not_true, Bool.not_false, Bool.not_not, List.reverse_cons, List.reverse_nil, Option.map_some, Option.map_none, up_same, uTuple, uList, uSet, atI_zero, atI_one, ixN_20, ixN_zero, List.set_cons_zero, uPow, trG, l1__law_bins]
    refine ⟨divS (by omega) (by omega), mulR (by omega) (by omega), ?_⟩
    have hlb : k % up < ((binL hs up k).length : Int) := by rw [binL_len]; omega
    simp only [trSs, trS, trE, trT, trX, pl, trA, trO, trC, trI, uBin_s, uUn_s, uVar_s, uC_s, getS, setS, uOp, uAdd, uSub, uMul, uDiv, uMod, uPow, uNeg, uCmp, uEqF, uLt, uLe, uGt, uGe, uIsF, isNonU, uTru, Blt.fn, uLen, uAbs, uMax2, uMin2, uInt, uIx, startU, gam_fn, gam_gl, tab_xcs, tab_sub, UD_nx, UD_rt, UD_bk, UD_ct, UD_ex, spAt, glAt, gls, seqOf, List.map_cons, List.map_nil, List.cons_append, List.nil_append, List.length_cons, List.length_nil, List.replicate, Nat.reduceAdd, Nat.reduceSub, Nat.zero_add, reduceIte, Bool.false_eq_true, Bool.true_eq_false, Bool.false_bne, Bool.true_bne, Bool.not_true, Bool.not_false, Bool.not_not, List.reverse_cons, List.reverse_nil, Option.map_some, Option.map_none, up_same, uTuple, uList, uSet, atI_zero, atI_one, ixN_20, ixN_zero, List.set_cons_zero, uPow, t1__law_bins, mod_sub, hp, atI_int m0 hlb, atI_int k0 (show k < hs.length by omega), List.length_map, ixN_nat m0 hlb]
    refine ⟨_, .refl _, next _ _ _ ?_ ?_⟩
    · intro a u e
      rw [up_ne (fun z => by subst z; rw [hp0] at e; cases e)]
      exact l a u e
    · rw [up_same, ← binL_succ h1 k0, List.map_set]
theorem w__law_bins (us : List U) (G : UH) (Q : UK) (E : UXn → UH → Prop) (h : sp__law_bins us G Q E) : trSs (TB cl__law_bins) (GM cl__law_bins) b__law_bins (UD Q E) (startU n__law_bins us) G := by
  obtain ⟨up', hs, rfl, h1, h2, hl, q⟩ := h
  have lg := line_ge
  simp only [trSs, trS, trE, trT, trX, pl, trA, trO, trC, trI, uBin_s, uUn_s, uVar_s, uC_s, getS, setS, uOp, uAdd, uSub, uMul, uDiv, uMod, uPow, uNeg, uCmp, uEqF, uLt, uLe, uGt, uGe, uIsF, isNonU, uTru, Blt.fn, uLen, uAbs, uMax2, uMin2, uInt, uIx, startU, gam_fn, gam_gl, tab_xcs, tab_sub, UD_nx, UD_rt, UD_bk, UD_ct, UD_ex, spAt, glAt, gls, seqOf, List.map_cons, List.map_nil, List.cons_append, List.nil_append, List.length_cons, List.length_nil, List.replicate, Nat.reduceAdd, Nat.reduceSub, Nat.zero_add, reduceIte, Bool.false_eq_true, Bool.true_eq_false, Bool.false_bne, Bool.true_bne, Bool.not_true, Bool.not_false, Bool.not_not, List.reverse_cons, List.reverse_nil, Option.map_some, Option.map_none, up_same, uTuple, uList, uSet, atI_zero, atI_one, ixN_20, ixN_zero, List.set_cons_zero, uPow, b__law_bins, n__law_bins, trG]
  refine ⟨by omega, fun g hg => ⟨by omega, by omega, by omega, fun p hp => ?_⟩⟩
  simp only [trSs, trS, trE, trT, trX, pl, trA, trO, trC, trI, uBin_s, uUn_s, uVar_s, uC_s, getS, setS, uOp, uAdd, uSub, uMul, uDiv, uMod, uPow, uNeg, uCmp, uEqF, uLt, uLe, uGt, uGe, uIsF, isNonU, uTru, Blt.fn, uLen, uAbs, uMax2, uMin2, uInt, uIx, startU, gam_fn, gam_gl, tab_xcs, tab_sub, UD_nx, UD_rt, UD_bk, UD_ct, UD_ex, spAt, glAt, gls, seqOf, List.map_cons, List.map_nil, List.cons_append, List.nil_append, List.length_cons, List.length_nil, List.replicate, Nat.reduceAdd, Nat.reduceSub, Nat.zero_add, reduceIte, Bool.false_eq_true, Bool.true_eq_false, Bool.false_bne, Bool.true_bne, Bool.not_true, Bool.not_false, Bool.not_not, List.reverse_cons, List.reverse_nil, Option.map_some, Option.map_none, up_same, uTuple, uList, uSet, atI_zero, atI_one, ixN_20, ixN_zero, List.set_cons_zero, uPow, t3__law_bins, List.length_map]
  refine ⟨by unfold small62; omega, ?_⟩
  rw [rangeU_map]
  have hp0 : G p = none := by
    by_cases z : p = g
    · subst z; exact hg
    · rw [up_ne z] at hp; exact hp
  refine l__law_bins h1 h2 hl hp0 _ (fun o o2 G1 l hp => ?_) _ 0 none none _ (by omega) (by omega) ((Le.new hg).trans (.new hp)) ?_
  · simp only [trSs, trS, trE, trT, trX, pl, trA, trO, trC, trI, uBin_s, uUn_s, uVar_s, uC_s, getS, setS, uOp, uAdd, uSub, uMul, uDiv, uMod, uPow, uNeg, uCmp, uEqF, uLt, uLe, uGt, uGe, uIsF, isNonU, uTru, Blt.fn, uLen, uAbs, uMax2, uMin2, uInt, uIx, startU, gam_fn, gam_gl, tab_xcs, tab_sub, UD_nx, UD_rt, UD_bk, UD_ct, UD_ex, spAt, glAt, gls, seqOf, List.map_cons, List.map_nil, List.cons_append, List.nil_append, List.length_cons, List.length_nil, List.replicate, Nat.reduceAdd, Nat.reduceSub, Nat.zero_add, reduceIte, Bool.false_eq_true, Bool.true_eq_false, Bool.false_bne, Bool.true_bne, Bool.not_true, Bool.not_false, Bool.not_not, List.reverse_cons, List.reverse_nil, Option.map_some, Option.map_none, up_same, uTuple, uList, uSet, atI_zero, atI_one, ixN_20, ixN_zero, List.set_cons_zero, uPow, t2__law_bins]
    exact ⟨G1, .refl _, q p G1 hp0 hp l⟩
  · rw [up_same, rep_flat, binL_zero hs h1]
    simp
/-! ### _law_constant -/
def szI (hs : List Int) (up down : Int) : Int := ((hs.length : Int) - 1 + down * (up / gcdI up down + 1)) / up + 2
def fsI (hs : List Int) (down : Int) : Int := ((hs.length : Int) - 1 + down - 1) / down
def tdL (w : Int) (hs : List Int) (up down : Int) : List Int := resL (List.replicate (szI hs up down).toNat w) hs up down
def constL (w : Int) (hs : List Int) (up down : Int) : List Int := (tdL w hs up down).drop (fsI hs down).toNat
section
variable {w : Int} {hs : List Int} {up down : Int} (u1 : 1 ≤ up) (u2 : up ≤ 64) (d1 : 1 ≤ down) (d2 : down ≤ 64) (l1 : 1 ≤ hs.length) (l2 : hs.length ≤ 64)
include u1 u2 d1 d2 l1 l2
theorem sz_bd : 2 ≤ szI hs up down ∧ szI hs up down ≤ 1000 := by
  unfold szI
  obtain ⟨g1, _⟩ := gcd_facts u1 d1
  have e1 : up / gcdI up down ≤ up := Int.ediv_le_self _ (by omega)
  have e0 : 0 ≤ up / gcdI up down := Int.ediv_nonneg (by omega) (by omega)
  generalize up / gcdI up down = U at *
  have m1 : down * (U + 1) ≤ 64 * (up + 1) := Int.mul_le_mul d2 (by omega) (by omega) (by omega)
  have m0 : 0 ≤ down * (U + 1) := Int.mul_nonneg (by omega) (by omega)
  have a0 : 0 ≤ ((hs.length : Int) - 1 + down * (U + 1)) / up := Int.ediv_nonneg (by omega) (by omega)
  have a1 : ((hs.length : Int) - 1 + down * (U + 1)) / up ≤ 900 := by
    have : ((hs.length : Int) - 1 + down * (U + 1)) / up < 900 := Int.ediv_lt_of_lt_mul (by omega) (by omega)
    omega
  omega
theorem td_len : ((tdL w hs up down).length : Int) = (szI hs up down * up + down - 1) / down := by
  obtain ⟨s1, s2⟩ := sz_bd u1 u2 d1 d2 l1 l2
  unfold tdL resL
  rw [List.length_map, rangeI_len, List.length_replicate]
  unfold rlen
  rw [Int.toNat_of_nonneg (show 0 ≤ szI hs up down by omega), Int.sub_zero]
  have m0 : 0 ≤ szI hs up down * up := Int.mul_nonneg (by omega) (by omega)
  exact Int.toNat_of_nonneg (Int.ediv_nonneg (by omega) (by omega))
theorem td_get {k : Int} (h0 : fsI hs down ≤ k) (h1 : k < ((tdL w hs up down).length : Int)) : 0 ≤ k ∧ (tdL w hs up down)[k.toNat]? = some (valI w hs up down k) := by
  obtain ⟨s1, s2⟩ := sz_bd u1 u2 d1 d2 l1 l2
  have f0 : 0 ≤ fsI hs down := Int.ediv_nonneg (by omega) (by omega)
  refine ⟨by omega, ?_⟩
  have f1 : (hs.length : Int) - 1 ≤ fsI hs down * down := by
    unfold fsI
    have e := Int.mul_ediv_add_emod ((hs.length : Int) - 1 + down - 1) down
    have := Int.emod_lt_of_pos ((hs.length : Int) - 1 + down - 1) (show 0 < down by omega)
    rw [Int.mul_comm] at e
    omega
  unfold tdL resL at h1 ⊢
  rw [List.length_map, rangeI_len, List.length_replicate] at h1
  rw [List.getElem?_map, List.length_replicate, rangeI_get _ _ _ k.toNat (by omega), Option.map_some]
  have hlt := rlen_lt (i := k.toNat) (by omega) (show k.toNat < rlen 0 (((szI hs up down).toNat : Int) * up) down by omega)
  rw [Int.toNat_of_nonneg (show 0 ≤ k by omega)] at hlt ⊢
  have m1 : fsI hs down * down ≤ k * down := Int.mul_le_mul_of_nonneg_right h0 (by omega)
  rw [show 0 + k * down = down * k by rw [Int.mul_comm]; omega] at hlt ⊢
  rw [res_settled u1 (by rw [Int.mul_comm] at m1; rw [Int.mul_comm k down] at m1; rw [Int.mul_comm down (fsI hs down)] at m1; omega) hlt (by have := Int.mul_nonneg (show 0 ≤ down by omega) (show 0 ≤ k by omega); omega)]
theorem turn_in {k : Int} (h : k < fsI hs down + up / gcdI up down) : k < ((tdL w hs up down).length : Int) := by
  rw [td_len u1 u2 d1 d2 l1 l2]
  have h1 : k * down < szI hs up down * up := by
    have f1 : fsI hs down * down ≤ (hs.length : Int) - 1 + down - 1 := Int.ediv_mul_le _ (by omega)
    generalize hU : up / gcdI up down = U at *
    have s1 : (hs.length : Int) - 1 + down * (U + 1) < (szI hs up down) * up := by
      unfold szI
      rw [hU, Int.add_mul]
      have := Int.lt_ediv_add_one_mul_self ((hs.length : Int) - 1 + down * (U + 1)) (show 0 < up by omega)
      rw [Int.add_mul] at this
      omega
    have m1 : k * down ≤ (fsI hs down + U - 1) * down := Int.mul_le_mul_of_nonneg_right (by omega) (by omega)
    rw [Int.sub_mul, Int.add_mul] at m1
    rw [Int.mul_add, Int.mul_comm down U] at s1
    omega
  have h2 : k + 1 ≤ (szI hs up down * up + down - 1) / down := (Int.le_ediv_iff_mul_le (by omega)).mpr (by rw [Int.add_mul]; omega)
  omega
theorem const_mem {x : Int} (h : x ∈ constL w hs up down) : ∃ k, x = valI w hs up down k := by
  unfold constL at h
  obtain ⟨i, hi⟩ := List.getElem?_of_mem h
  rw [List.getElem?_drop] at hi
  have f0 : 0 ≤ fsI hs down := Int.ediv_nonneg (by omega) (by omega)
  have hl := (List.getElem?_eq_some_iff.mp hi).1
  have := (td_get (w := w) u1 u2 d1 d2 l1 l2 (k := (((fsI hs down).toNat + i : Nat) : Int)) (by omega) (by omega)).2
  rw [Int.toNat_natCast, hi] at this
  exact ⟨_, Option.some.inj this⟩
theorem const_in {k : Int} (h0 : fsI hs down ≤ k) (h1 : k < fsI hs down + up / gcdI up down) : valI w hs up down k ∈ constL w hs up down := by
  have h2 := turn_in (w := w) u1 u2 d1 d2 l1 l2 h1
  obtain ⟨k0, e⟩ := td_get (w := w) u1 u2 d1 d2 l1 l2 h0 h2
  have f0 : 0 ≤ fsI hs down := Int.ediv_nonneg (by omega) (by omega)
  unfold constL
  refine List.mem_of_getElem? (i := k.toNat - (fsI hs down).toNat) ?_
  rw [List.getElem?_drop, show (fsI hs down).toNat + (k.toNat - (fsI hs down).toNat) = k.toNat by omega]
  exact e
theorem const_ne : constL w hs up down ≠ [] := by
  obtain ⟨g1, eu, _⟩ := gcd_facts u1 d1
  have : 1 ≤ up / gcdI up down := by
    generalize up / gcdI up down = U at *
    rcases Int.lt_or_le U 1 with z | z
    · have : gcdI up down * U ≤ gcdI up down * 0 := Int.mul_le_mul_of_nonneg_left (by omega) (by omega)
      omega
    · exact z
  exact List.ne_nil_of_mem (const_in (w := w) u1 u2 d1 d2 l1 l2 (k := fsI hs down) (by omega) (by omega))
theorem const_good (hw : -1048575 ≤ w) (hw2 : w ≤ 1048575) (hb : badI hs up down = []) : ∀ x ∈ constL w hs up down, x = w := by
  intro x hx
  obtain ⟨k, rfl⟩ := const_mem u1 u2 d1 d2 l1 l2 hx
  exact val_one hw hw2 (bad_nil u1 d1 hb)
theorem const_bad (hb : badI hs up down ≠ []) : ∃ x ∈ constL 4096 hs up down, x ≠ 4096 := by
  obtain ⟨k, k1, k2, k3⟩ := bad_cons (first := fsI hs down) u1 d1 hb
  exact ⟨_, const_in u1 u2 d1 d2 l1 l2 k1 k2, val_ne k3⟩
end
theorem due2 (v : Int) : v / 4096 + (if decide (2048 ≤ v % 4096) = true then 1 else 0) = (2 * v + 4096) / 8192 := by
  by_cases c : 2048 ≤ v % 4096
  · rw [if_pos (decide_eq_true c)]; omega
  · rw [if_neg (by simpa using c)]; omega
def sp__law_constant : USp := fun us G Q _ => ∃ (w up down : Int) (hs : List Int) (b : Addr), us = [.int w, .int up, .int down, .tup (hs.map U.int), .ref b] ∧ G b = some (.lst ((binsL hs up).map U.int)) ∧ -1048575 ≤ w ∧ w ≤ 1048575 ∧ 1 ≤ up ∧ up ≤ 64 ∧ 1 ≤ down ∧ down ≤ 64 ∧ 1 ≤ hs.length ∧ hs.length ≤ 64 ∧ (∀ x ∈ hs, -65536 ≤ x ∧ x ≤ 65536) ∧
  ∀ a c G', G' a = some (.lst [.bl true, .ref c]) → G' c = some (.lst ((constL w hs up down).map U.int)) → Le G G' → Q (.ref a) G'
def cl__law_constant : List (Str × USp) := [("_law_common", sp__law_common), ("resampled", sp_resampled)]
theorem bins_get {hs : List Int} {up r : Int} (h0 : 0 ≤ r) (h1 : r < up) : (binsL hs up).getD r.toNat 0 = binI hs up r := by
  rw [← binL_end, binL_get h0 h1]
  rfl
theorem l__law_constant {G0 : UH} {w up down : Int} {hs : List Int} {b : Addr} {ug us : Option U} (w1 : -1048575 ≤ w) (w2 : w ≤ 1048575) (u1 : 1 ≤ up) (u2 : up ≤ 64) (d1 : 1 ≤ down) (d2 : down ≤ 64) (l1 : 1 ≤ hs.length) (l2 : hs.length ≤ 64) (hb : G0 b = some (.lst ((binsL hs up).map U.int))) (D : UE)
    (qn : ∀ o9 o10 o11 o12 G, Le G0 G → D.nx [some (.int w), some (.int up), some (.int down), some (.tup (hs.map U.int)), some (.ref b), ug, us, some (.tup ((tdL w hs up down).map U.int)), some (.int (fsI hs down)), o9, o10, o11, o12] G) :
    ∀ (n : Nat) (k : Int) (o9 o10 o11 o12 : Option U) (G : UH), fsI hs down ≤ k → (0 < n → k + n = ((tdL w hs up down).length : Int)) → Le G0 G →
    forU [] (trG (.nm 9)) (trSs (TB cl__law_constant) (GM cl__law_constant) l1__law_constant) D (List.map U.int (rangeI k 1 n)) [some (.int w), some (.int up), some (.int down), some (.tup (hs.map U.int)), some (.ref b), ug, us, some (.tup ((tdL w hs up down).map U.int)), some (.int (fsI hs down)), o9, o10, o11, o12] G
  | 0, k, o9, o10, o11, o12, G, k0, hk, l => ⟨trivial, qn _ _ _ _ G l⟩
  | n + 1, k, o9, o10, o11, o12, G, k0, hk, l => by
    have next : ∀ o9 o10 o11 o12 G, Le G0 G → forU [] (trG (.nm 9)) (trSs (TB cl__law_constant) (GM cl__law_constant) l1__law_constant) D (List.map U.int (rangeI (k + 1) 1 n)) [some (.int w), some (.int up), some (.int down), some (.tup (hs.map U.int)), some (.ref b), ug, us, some (.tup ((tdL w hs up down).map U.int)), some (.int (fsI hs down)), o9, o10, o11, o12] G :=
      fun o9 o10 o11 o12 G l => l__law_constant w1 w2 u1 u2 d1 d2 l1 l2 hb D qn n (k + 1) _ _ _ _ G (by omega) (fun _ => by have := hk (by omega); omega) l
    have hkl := hk (by omega)
    obtain ⟨k00, hget⟩ := td_get (w := w) u1 u2 d1 d2 l1 l2 k0 (by omega)
    have hT : ∃ T, T = tdL w hs up down := ⟨_, rfl⟩
    obtain ⟨T, hT⟩ := hT
    rw [← hT] at hget hkl next ⊢
    have m0 := Int.emod_nonneg (down * k) (show up ≠ 0 by omega)
    have m1 := Int.emod_lt_of_pos (down * k) (show 0 < up by omega)
    have hlb : (down * k) % up < ((binsL hs up).length : Int) := by rw [show (binsL hs up).length = up.toNat by simp [binsL]]; omega
    have hv : T.getD k.toNat 0 = max (-1048575) (min 1048575 (w * binI hs up (down * k % up) / 4096 + if decide (2048 ≤ w * binI hs up (down * k % up) % 4096) = true then 1 else 0)) := by
      rw [List.getD_eq_getElem?_getD, hget, due2, Int.mul_comm w]
      rfl
    refine ⟨trivial, ?_⟩
    generalize forU _ _ _ D (List.map U.int (rangeI (k + 1) 1 n)) = TT at next ⊢
    have lg := line_ge
    simp only [trSs, trS, trE, trT, trX, pl, trA, trO, trC, trI, uBin_s, uUn_s, uVar_s, uC_s, getS, setS, uOp, uAdd, uSub, uMul, uDiv, uMod, uPow, uNeg, uCmp, uEqF, uLt, uLe, uGt, uGe, uIsF, isNonU, uTru, Blt.fn, uLen, uAbs, uMax2, uMin2, uInt, uIx, startU, gam_fn, gam_gl, tab_xcs, tab_sub, UD_nx, UD_rt, UD_bk, UD_ct, UD_ex, spAt, glAt, gls, seqOf, List.map_cons, List.map_nil, List.cons_append, List.nil_append, List.length_cons, List.length_nil, List.replicate, Nat.reduceAdd, Nat.reduceSub, Nat.zero_add, reduceIte, Bool.false_eq_true, Bool.true_eq_false, Bool.false_bne, Bool.true_bne, Bool.not_true, Bool.not_false, Bool.not_not, List.reverse_cons, List.reverse_nil, Option.map_some, Option.map_none, up_same, uTuple, uList, uSet, atI_zero, atI_one, ixN_20, ixN_zero, List.set_cons_zero, uPow, trG, trGs, lenG, l1__law_constant, mod_sub, l b _ hb, atI_int m0 hlb, bins_get m0 m1, uDivmod]
    refine ⟨mulL (by omega) (by omega), mulL (by omega) (by omega), divS (by omega) (by omega), mulR (by omega) (by omega), mulL (by omega) (by omega), ⟨by decide, by decide⟩, trivial, trivial, ?_⟩
    simp only [trSs, trS, trE, trT, trX, pl, trA, trO, trC, trI, uBin_s, uUn_s, uVar_s, uC_s, getS, setS, uOp, uAdd, uSub, uMul, uDiv, uMod, uPow, uNeg, uCmp, uEqF, uLt, uLe, uGt, uGe, uIsF, isNonU, uTru, Blt.fn, uLen, uAbs, uMax2, uMin2, uInt, uIx, startU, gam_fn, gam_gl, tab_xcs, tab_sub, UD_nx, UD_rt, UD_bk, UD_ct, UD_ex, spAt, glAt, gls, seqOf, List.map_cons, List.map_nil, List.cons_append, List.nil_append, List.length_cons, List.length_nil, List.replicate, Nat.reduceAdd, Nat.reduceSub, Nat.zero_add, reduceIte, Bool.false_eq_true, Bool.true_eq_false, Bool.false_bne, Bool.true_bne, Bool.not_true, Bool.not_false, Bool.not_not, List.reverse_cons, List.reverse_nil, Option.map_some, Option.map_none, up_same, uTuple, uList, uSet, atI_zero, atI_one, ixN_20, ixN_zero, List.set_cons_zero, uPow, t2__law_constant, trG]
    refine ⟨by omega, fun p hp => ?_⟩
    refine sorted_of (ns := [-1048575, w * binI hs up (down * k % up) / 4096 + if decide (2048 ≤ w * binI hs up (down * k % up) % 4096) = true then 1 else 0, 1048575]) up_same fun ns' h1 h2 p2 hp2 => ?_
    obtain ⟨x, y, rfl⟩ := sort3 (by decide) h1 h2
    have l' := (l.trans (.new hp)).trans (.new hp2 (o := .lst (List.map U.int [x, max (-1048575) (min 1048575 (w * binI hs up (down * k % up) / 4096 + if decide (2048 ≤ w * binI hs up (down * k % up) % 4096) = true then 1 else 0)), y])))
    simp only [trSs, trS, trE, trT, trX, pl, trA, trO, trC, trI, uBin_s, uUn_s, uVar_s, uC_s, getS, setS, uOp, uAdd, uSub, uMul, uDiv, uMod, uPow, uNeg, uCmp, uEqF, uLt, uLe, uGt, uGe, uIsF, isNonU, uTru, Blt.fn, uLen, uAbs, uMax2, uMin2, uInt, uIx, startU, gam_fn, gam_gl, tab_xcs, tab_sub, UD_nx, UD_rt, UD_bk, UD_ct, UD_ex, spAt, glAt, gls, seqOf, List.map_cons, List.map_nil, List.cons_append, List.nil_append, List.length_cons, List.length_nil, List.replicate, Nat.reduceAdd, Nat.reduceSub, Nat.zero_add, reduceIte, Bool.false_eq_true, Bool.true_eq_false, Bool.false_bne, Bool.true_bne, Bool.not_true, Bool.not_false, Bool.not_not, List.reverse_cons, List.reverse_nil, Option.map_some, Option.map_none, up_same, uTuple, uList, uSet, atI_zero, atI_one, ixN_20, ixN_zero, List.set_cons_zero, uPow, t1__law_constant, atI_int k00 (show k < (T.length : Int) by omega), hv]
    refine isi_int rfl ?_
    simp only [trSs, trS, trE, trT, trX, pl, trA, trO, trC, trI, uBin_s, uUn_s, uVar_s, uC_s, getS, setS, uOp, uAdd, uSub, uMul, uDiv, uMod, uPow, uNeg, uCmp, uEqF, uLt, uLe, uGt, uGe, uIsF, isNonU, uTru, Blt.fn, uLen, uAbs, uMax2, uMin2, uInt, uIx, startU, gam_fn, gam_gl, tab_xcs, tab_sub, UD_nx, UD_rt, UD_bk, UD_ct, UD_ex, spAt, glAt, gls, seqOf, List.map_cons, List.map_nil, List.cons_append, List.nil_append, List.length_cons, List.length_nil, List.replicate, Nat.reduceAdd, Nat.reduceSub, Nat.zero_add, reduceIte, Bool.false_eq_true, Bool.true_eq_false, Bool.false_bne, Bool.true_bne, Bool.not_true, Bool.not_false, Bool.not_not, List.reverse_cons, List.reverse_nil, Option.map_some, Option.map_none, up_same, uTuple, uList, uSet, atI_zero, atI_one, ixN_20, ixN_zero, List.set_cons_zero, uPow, kI]
    refine isi_bool rfl ?_
    simp only [trSs, trS, trE, trT, trX, pl, trA, trO, trC, trI, uBin_s, uUn_s, uVar_s, uC_s, getS, setS, uOp, uAdd, uSub, uMul, uDiv, uMod, uPow, uNeg, uCmp, uEqF, uLt, uLe, uGt, uGe, uIsF, isNonU, uTru, Blt.fn, uLen, uAbs, uMax2, uMin2, uInt, uIx, startU, gam_fn, gam_gl, tab_xcs, tab_sub, UD_nx, UD_rt, UD_bk, UD_ct, UD_ex, spAt, glAt, gls, seqOf, List.map_cons, List.map_nil, List.cons_append, List.nil_append, List.length_cons, List.length_nil, List.replicate, Nat.reduceAdd, Nat.reduceSub, Nat.zero_add, reduceIte, Bool.false_eq_true, Bool.true_eq_false, Bool.false_bne, Bool.true_bne, Bool.not_true, Bool.not_false, Bool.not_not, List.reverse_cons, List.reverse_nil, Option.map_some, Option.map_none, up_same, uTuple, uList, uSet, atI_zero, atI_one, ixN_20, ixN_zero, List.set_cons_zero, uPow, kB, decide_true]
    exact ⟨_, .refl _, next _ _ _ _ _ l'⟩
theorem rates_ok {up down : Int} {hs : List Int} (u1 : 1 ≤ up) (u2 : up ≤ 64) (d1 : 1 ≤ down) (d2 : down ≤ 64) (l1 : 1 ≤ hs.length) (l2 : hs.length ≤ 64) (hb : ∀ x ∈ hs, -65536 ≤ x ∧ x ≤ 65536) : ratesW (.int up) (.int down) (.tup (hs.map U.int)) = none := by
  unfold ratesW
  rw [if_pos (by simp [okM, u1, u2]), if_pos (by simp [okM, d1, d2])]
  have e : okWs (.tup (hs.map U.int)) = true := by
    simp only [okWs, List.length_map, Bool.and_eq_true, decide_eq_true_eq, List.all_map, List.all_eq_true]
    exact ⟨⟨l1, l2⟩, fun x hx => by simp [okWt, hb x hx]⟩
  rw [if_pos e]
theorem map_intV (ns : List Int) : (ns.map U.int).map intV = ns := by
  rw [List.map_map]
  exact List.map_id ns
theorem ok_ints {G : UH} (ns : List Int) : okS G (.tup (ns.map U.int)) := ⟨rfl, fun ws e x hx => by
  cases e
  obtain ⟨n, _, rfl⟩ := List.mem_map.mp hx
  rfl⟩
theorem w__law_constant (us : List U) (G : UH) (Q : UK) (E : UXn → UH → Prop) (h : sp__law_constant us G Q E) : trSs (TB cl__law_constant) (GM cl__law_constant) b__law_constant (UD Q E) (startU n__law_constant us) G := by
  obtain ⟨w, up, down, hs, b, rfl, hb, w1, w2, u1, u2, d1, d2, l1, l2, hbd, q⟩ := h
  have lg := line_ge
  obtain ⟨s1, s2⟩ := sz_bd (hs := hs) u1 u2 d1 d2 l1 l2
  obtain ⟨g1, g2⟩ := gcd_bd (b := down) u1 u2
  simp only [trSs, trS, trE, trT, trX, pl, trA, trO, trC, trI, uBin_s, uUn_s, uVar_s, uC_s, getS, setS, uOp, uAdd, uSub, uMul, uDiv, uMod, uPow, uNeg, uCmp, uEqF, uLt, uLe, uGt, uGe, uIsF, isNonU, uTru, Blt.fn, uLen, uAbs, uMax2, uMin2, uInt, uIx, startU, gam_fn, gam_gl, tab_xcs, tab_sub, UD_nx, UD_rt, UD_bk, UD_ct, UD_ex, spAt, glAt, gls, seqOf, List.map_cons, List.map_nil, List.cons_append, List.nil_append, List.length_cons, List.length_nil, List.replicate, Nat.reduceAdd, Nat.reduceSub, Nat.zero_add, reduceIte, Bool.false_eq_true, Bool.true_eq_false, Bool.false_bne, Bool.true_bne, Bool.not_true, Bool.not_false, Bool.not_not, List.reverse_cons, List.reverse_nil, Option.map_some, Option.map_none, up_same, uTuple, uList, uSet, atI_zero, atI_one, ixN_20, ixN_zero, List.set_cons_zero, uPow, b__law_constant, n__law_constant, trG, cl__law_constant]
  refine ⟨up, down, rfl, u1, u2, d1, ?_⟩
  simp only [trSs, trS, trE, trT, trX, pl, trA, trO, trC, trI, uBin_s, uUn_s, uVar_s, uC_s, getS, setS, uOp, uAdd, uSub, uMul, uDiv, uMod, uPow, uNeg, uCmp, uEqF, uLt, uLe, uGt, uGe, uIsF, isNonU, uTru, Blt.fn, uLen, uAbs, uMax2, uMin2, uInt, uIx, startU, gam_fn, gam_gl, tab_xcs, tab_sub, UD_nx, UD_rt, UD_bk, UD_ct, UD_ex, spAt, glAt, gls, seqOf, List.map_cons, List.map_nil, List.cons_append, List.nil_append, List.length_cons, List.length_nil, List.replicate, Nat.reduceAdd, Nat.reduceSub, Nat.zero_add, reduceIte, Bool.false_eq_true, Bool.true_eq_false, Bool.false_bne, Bool.true_bne, Bool.not_true, Bool.not_false, Bool.not_not, List.reverse_cons, List.reverse_nil, Option.map_some, Option.map_none, up_same, uTuple, uList, uSet, atI_zero, atI_one, ixN_20, ixN_zero, List.set_cons_zero, uPow, t8__law_constant, trG, List.length_map]
  refine ⟨divS (by omega) (by omega), mulL (by omega) (by omega), divS (by omega) (by omega), ?_⟩
  rw [show ((hs.length : Int) - 1 + down * (up / gcdI up down + 1)) / up + 2 = szI hs up down from rfl]
  simp only [trSs, trS, trE, trT, trX, pl, trA, trO, trC, trI, uBin_s, uUn_s, uVar_s, uC_s, getS, setS, uOp, uAdd, uSub, uMul, uDiv, uMod, uPow, uNeg, uCmp, uEqF, uLt, uLe, uGt, uGe, uIsF, isNonU, uTru, Blt.fn, uLen, uAbs, uMax2, uMin2, uInt, uIx, startU, gam_fn, gam_gl, tab_xcs, tab_sub, UD_nx, UD_rt, UD_bk, UD_ct, UD_ex, spAt, glAt, gls, seqOf, List.map_cons, List.map_nil, List.cons_append, List.nil_append, List.length_cons, List.length_nil, List.replicate, Nat.reduceAdd, Nat.reduceSub, Nat.zero_add, reduceIte, Bool.false_eq_true, Bool.true_eq_false, Bool.false_bne, Bool.true_bne, Bool.not_true, Bool.not_false, Bool.not_not, List.reverse_cons, List.reverse_nil, Option.map_some, Option.map_none, up_same, uTuple, uList, uSet, atI_zero, atI_one, ixN_20, ixN_zero, List.set_cons_zero, uPow, t7__law_constant, trG, cl__law_constant]
  refine ⟨by omega, by simp, by omega, s2, by decide, ?_⟩
  rw [rep_flat]
  have e1 : List.replicate (szI hs up down).toNat (U.int w) = (List.replicate (szI hs up down).toNat w).map U.int := by simp
  rw [e1]
  refine ⟨_, _, _, _, rfl, ok_ints _, rfl, rfl, ok_ints _, ?_, ?_⟩
  · show (List.map U.int _).length ≤ 100000
    rw [List.length_map, List.length_replicate]
    omega
  have e2 : sndW (.tup ((List.replicate (szI hs up down).toNat w).map U.int)) (.int up) (.int down) (.tup (hs.map U.int)) = none := by
    unfold sndW
    rw [if_pos, rates_ok u1 u2 d1 d2 l1 l2 hbd]
    simp [isS, isW, w1, w2]
  rw [e2]
  simp only [tupL, map_intV, intV]
  rw [show resL (List.replicate (szI hs up down).toNat w) hs up down = tdL w hs up down from rfl]
  simp only [trSs, trS, trE, trT, trX, pl, trA, trO, trC, trI, uBin_s, uUn_s, uVar_s, uC_s, getS, setS, uOp, uAdd, uSub, uMul, uDiv, uMod, uPow, uNeg, uCmp, uEqF, uLt, uLe, uGt, uGe, uIsF, isNonU, uTru, Blt.fn, uLen, uAbs, uMax2, uMin2, uInt, uIx, startU, gam_fn, gam_gl, tab_xcs, tab_sub, UD_nx, UD_rt, UD_bk, UD_ct, UD_ex, spAt, glAt, gls, seqOf, List.map_cons, List.map_nil, List.cons_append, List.nil_append, List.length_cons, List.length_nil, List.replicate, Nat.reduceAdd, Nat.reduceSub, Nat.zero_add, reduceIte, Bool.false_eq_true, Bool.true_eq_false, Bool.false_bne, Bool.true_bne, Bool.not_true, Bool.not_false, Bool.not_not, List.reverse_cons, List.reverse_nil, Option.map_some, Option.map_none, up_same, uTuple, uList, uSet, atI_zero, atI_one, ixN_20, ixN_zero, List.set_cons_zero, uPow, t6__law_constant]
  refine isi_tuple rfl ?_
  simp only [trSs, trS, trE, trT, trX, pl, trA, trO, trC, trI, uBin_s, uUn_s, uVar_s, uC_s, getS, setS, uOp, uAdd, uSub, uMul, uDiv, uMod, uPow, uNeg, uCmp, uEqF, uLt, uLe, uGt, uGe, uIsF, isNonU, uTru, Blt.fn, uLen, uAbs, uMax2, uMin2, uInt, uIx, startU, gam_fn, gam_gl, tab_xcs, tab_sub, UD_nx, UD_rt, UD_bk, UD_ct, UD_ex, spAt, glAt, gls, seqOf, List.map_cons, List.map_nil, List.cons_append, List.nil_append, List.length_cons, List.length_nil, List.replicate, Nat.reduceAdd, Nat.reduceSub, Nat.zero_add, reduceIte, Bool.false_eq_true, Bool.true_eq_false, Bool.false_bne, Bool.true_bne, Bool.not_true, Bool.not_false, Bool.not_not, List.reverse_cons, List.reverse_nil, Option.map_some, Option.map_none, up_same, uTuple, uList, uSet, atI_zero, atI_one, ixN_20, ixN_zero, List.set_cons_zero, uPow, kT, List.length_map]
  refine ⟨mulL (by omega) (by omega), divS (by omega) (by omega), ?_⟩
  simp only [trSs, trS, trE, trT, trX, pl, trA, trO, trC, trI, uBin_s, uUn_s, uVar_s, uC_s, getS, setS, uOp, uAdd, uSub, uMul, uDiv, uMod, uPow, uNeg, uCmp, uEqF, uLt, uLe, uGt, uGe, uIsF, isNonU, uTru, Blt.fn, uLen, uAbs, uMax2, uMin2, uInt, uIx, startU, gam_fn, gam_gl, tab_xcs, tab_sub, UD_nx, UD_rt, UD_bk, UD_ct, UD_ex, spAt, glAt, gls, seqOf, List.map_cons, List.map_nil, List.cons_append, List.nil_append, List.length_cons, List.length_nil, List.replicate, Nat.reduceAdd, Nat.reduceSub, Nat.zero_add, reduceIte, Bool.false_eq_true, Bool.true_eq_false, Bool.false_bne, Bool.true_bne, Bool.not_true, Bool.not_false, Bool.not_not, List.reverse_cons, List.reverse_nil, Option.map_some, Option.map_none, up_same, uTuple, uList, uSet, atI_zero, atI_one, ixN_20, ixN_zero, List.set_cons_zero, uPow, td_len (w := w) u1 u2 d1 d2 l1 l2, decide_true]
  simp only [trSs, trS, trE, trT, trX, pl, trA, trO, trC, trI, uBin_s, uUn_s, uVar_s, uC_s, getS, setS, uOp, uAdd, uSub, uMul, uDiv, uMod, uPow, uNeg, uCmp, uEqF, uLt, uLe, uGt, uGe, uIsF, isNonU, uTru, Blt.fn, uLen, uAbs, uMax2, uMin2, uInt, uIx, startU, gam_fn, gam_gl, tab_xcs, tab_sub, UD_nx, UD_rt, UD_bk, UD_ct, UD_ex, spAt, glAt, gls, seqOf, List.map_cons, List.map_nil, List.cons_append, List.nil_append, List.length_cons, List.length_nil, List.replicate, Nat.reduceAdd, Nat.reduceSub, Nat.zero_add, reduceIte, Bool.false_eq_true, Bool.true_eq_false, Bool.false_bne, Bool.true_bne, Bool.not_true, Bool.not_false, Bool.not_not, List.reverse_cons, List.reverse_nil, Option.map_some, Option.map_none, up_same, uTuple, uList, uSet, atI_zero, atI_one, ixN_20, ixN_zero, List.set_cons_zero, uPow, t5__law_constant, trG, List.length_map]
  refine ⟨divS (by omega) (by omega), ?_⟩
  rw [show ((hs.length : Int) - 1 + down - 1) / down = fsI hs down from rfl]
  have f0 : 0 ≤ fsI hs down := Int.ediv_nonneg (by omega) (by omega)
  have f1 : fsI hs down ≤ 128 := by
    have := Int.ediv_le_self down (show 0 ≤ (hs.length : Int) - 1 + down - 1 by omega)
    unfold fsI
    omega
  have tl := td_len (w := w) u1 u2 d1 d2 l1 l2
  have tl2 : ((tdL w hs up down).length : Int) ≤ 200000 := by
    have m1 : szI hs up down * up ≤ 1000 * 64 := Int.mul_le_mul s2 u2 (by omega) (by omega)
    have m0 : 0 ≤ szI hs up down * up := Int.mul_nonneg (by omega) (by omega)
    have := Int.ediv_le_self down (show 0 ≤ szI hs up down * up + down - 1 by omega)
    omega
  simp only [trSs, trS, trE, trT, trX, pl, trA, trO, trC, trI, uBin_s, uUn_s, uVar_s, uC_s, getS, setS, uOp, uAdd, uSub, uMul, uDiv, uMod, uPow, uNeg, uCmp, uEqF, uLt, uLe, uGt, uGe, uIsF, isNonU, uTru, Blt.fn, uLen, uAbs, uMax2, uMin2, uInt, uIx, startU, gam_fn, gam_gl, tab_xcs, tab_sub, UD_nx, UD_rt, UD_bk, UD_ct, UD_ex, spAt, glAt, gls, seqOf, List.map_cons, List.map_nil, List.cons_append, List.nil_append, List.length_cons, List.length_nil, List.replicate, Nat.reduceAdd, Nat.reduceSub, Nat.zero_add, reduceIte, Bool.false_eq_true, Bool.true_eq_false, Bool.false_bne, Bool.true_bne, Bool.not_true, Bool.not_false, Bool.not_not, List.reverse_cons, List.reverse_nil, Option.map_some, Option.map_none, up_same, uTuple, uList, uSet, atI_zero, atI_one, ixN_20, ixN_zero, List.set_cons_zero, uPow, t4__law_constant, List.length_map]
  refine ⟨by unfold small62; omega, by unfold small62; omega, ?_⟩
  rw [rangeU_map]
  refine l__law_constant w1 w2 u1 u2 d1 d2 l1 l2 hb _ (fun o9 o10 o11 o12 G1 lG => ?_) _ _ none none none none G (Int.le_refl _) (fun h => by omega) (.refl G)
  simp only [trSs, trS, trE, trT, trX, pl, trA, trO, trC, trI, uBin_s, uUn_s, uVar_s, uC_s, getS, setS, uOp, uAdd, uSub, uMul, uDiv, uMod, uPow, uNeg, uCmp, uEqF, uLt, uLe, uGt, uGe, uIsF, isNonU, uTru, Blt.fn, uLen, uAbs, uMax2, uMin2, uInt, uIx, startU, gam_fn, gam_gl, tab_xcs, tab_sub, UD_nx, UD_rt, UD_bk, UD_ct, UD_ex, spAt, glAt, gls, seqOf, List.map_cons, List.map_nil, List.cons_append, List.nil_append, List.length_cons, List.length_nil, List.replicate, Nat.reduceAdd, Nat.reduceSub, Nat.zero_add, reduceIte, Bool.false_eq_true, Bool.true_eq_false, Bool.false_bne, Bool.true_bne, Bool.not_true, Bool.not_false, Bool.not_not, List.reverse_cons, List.reverse_nil, Option.map_some, Option.map_none, up_same, uTuple, uList, uSet, atI_zero, atI_one, ixN_20, ixN_zero, List.set_cons_zero, uPow, t3__law_constant, uSl]
  intro c hc
  refine ⟨by omega, fun a ha => ?_⟩
  have hac : c ≠ a := fun z => by subst z; rw [up_same] at ha; cases ha
  refine fin.of (q a c _ up_same ?_ ((lG.trans (.new hc)).trans (.new ha)))
  rw [up_ne hac, up_same, cut_drop f0, ← List.map_drop]
  rfl
end K71
set_option Elab.async false
set_option linter.all false
set_option autoImplicit false
set_option maxRecDepth 100000
set_option maxHeartbeats 4000000
namespace K71
open PySem PySem.Spec L2 UL
/-! ### _law_weights -/
def Bnd (B x : Int) : Prop := -B ≤ x ∧ x ≤ B
theorem sum_bd {M : Int} : ∀ l : List Int, (∀ x ∈ l, Bnd M x) → Bnd (l.length * M) l.sum
  | [], _ => by simp [Bnd]
  | x :: l, h => by
    have ih := sum_bd l (fun y hy => h y (List.mem_cons_of_mem _ hy))
    have hx := h x List.mem_cons_self
    unfold Bnd at *
    rw [List.sum_cons, List.length_cons, Int.natCast_add, Int.add_mul]
    omega
structure Inv (up many M r : Int) (xs : List Int) : Prop where
  len : (xs.length : Int) = many
  all : ∀ i : Nat, i < xs.length → Bnd 64096 (xs.getD i 0)
  old : ∀ i : Nat, i < xs.length → r ≤ (i : Int) % up → Bnd M (xs.getD i 0)
theorem Inv.last {up many M r : Int} {xs : List Int} (h : Inv up many M r xs) (u1 : 1 ≤ up) (r0 : 0 ≤ r) (ru : r < up) (rm : r < many) (hM0 : 0 ≤ M) (hM : M * (many / up) ≤ 60000) :
    ∃ l : Int, r + (many - 1 - r) / up * up = l ∧ 0 ≤ l ∧ l < many ∧ l % up = r ∧ Bnd 60000 (((rangeI r up (rlen r many up)).map fun j => xs.getD j.toNat 0).sum - xs.getD l.toNat 0) := by
  obtain ⟨n, hn⟩ := Int.eq_ofNat_of_zero_le (Int.ediv_nonneg (show 0 ≤ many - 1 - r by omega) (show 0 ≤ up by omega))
  have e := Int.mul_ediv_add_emod (many - 1 - r) up
  have e0 := Int.emod_nonneg (many - 1 - r) (show up ≠ 0 by omega)
  have e1 := Int.emod_lt_of_pos (many - 1 - r) (show 0 < up by omega)
  rw [hn] at e ⊢
  rw [Int.mul_comm] at e
  have nn : 0 ≤ (n : Int) * up := Int.mul_nonneg (by omega) (by omega)
  refine ⟨r + n * up, rfl, by omega, by omega, by rw [Int.add_mul_emod_self_right]; exact Int.emod_eq_of_lt r0 ru, ?_⟩
  have hl : rlen r many up = n + 1 := rlen_eq (by omega) (by rw [Int.natCast_add, Int.add_mul]; omega) (fun i hi => by
    have : (i : Int) * up ≤ (n : Int) * up := Int.mul_le_mul_of_nonneg_right (by omega) (by omega)
    omega)
  rw [hl, rangeI_last, List.map_append, List.sum_append]
  have b := sum_bd (M := M) ((rangeI r up n).map fun j => xs.getD j.toNat 0) (fun x hx => by
    obtain ⟨j, hj, rfl⟩ := List.mem_map.mp hx
    obtain ⟨i, hi, ej⟩ := rangeI_mem hj
    have i0 : 0 ≤ (i : Int) * up := Int.mul_nonneg (by omega) (by omega)
    have i1 : (i : Int) * up ≤ (n : Int) * up := Int.mul_le_mul_of_nonneg_right (by omega) (by omega)
    have hlen := h.len
    refine h.old j.toNat (by omega) ?_
    rw [Int.toNat_of_nonneg (by omega), ej, Int.add_mul_emod_self_right, Int.emod_eq_of_lt r0 ru]
    exact Int.le_refl _)
  rw [List.length_map, rangeI_len] at b
  have nm : (n : Int) ≤ many / up := by
    rw [← hn]
    exact Int.ediv_le_ediv (by omega) (by omega)
  have nM : (n : Int) * M ≤ 60000 := by
    have : (n : Int) * M ≤ (many / up) * M := Int.mul_le_mul_of_nonneg_right nm hM0
    rw [Int.mul_comm (many / up)] at this
    omega
  unfold Bnd at *
  simp only [List.map_cons, List.map_nil, List.sum_cons, List.sum_nil]
  omega
theorem getD_set (xs : List Int) (i j : Nat) (v : Int) : (xs.set i v).getD j 0 = if i = j ∧ i < xs.length then v else xs.getD j 0 := by
  rw [List.getD_eq_getElem?_getD, List.getElem?_set, List.getD_eq_getElem?_getD]
  by_cases c : i = j
  · subst c
    by_cases c2 : i < xs.length
    · simp [c2]
    · simp [c2]
  · simp [c]
theorem Inv.step {up many M r r' l v : Int} {xs : List Int} (h : Inv up many M r xs) (hr : r < r') (l0 : 0 ≤ l) (hl : l % up = r) (hv : Bnd 64096 v) : Inv up many M r' (xs.set l.toNat v) where
  len := by rw [List.length_set]; exact h.len
  all := fun i hi => by
    rw [List.length_set] at hi
    rw [getD_set]
    split
    · exact hv
    · exact h.all i hi
  old := fun i hi hri => by
    rw [List.length_set] at hi
    rw [getD_set]
    split
    · rename_i c
      have : (i : Int) = l := by omega
      rw [this, hl] at hri
      omega
    · exact h.old i hi (by omega)
def sp__law_weights : USp := fun us G Q _ => ∃ p g up share, us = [.ref p, .int up, .int share] ∧ Pur G p g ∧ 1 ≤ up ∧ up ≤ 64 ∧ 1 ≤ share ∧ share ≤ up ∧ ∀ (hs : List Int) G', 1 ≤ hs.length → hs.length ≤ 64 → (∀ x ∈ hs, -65536 ≤ x ∧ x ≤ 65536) → Pur G' p g → Q (.tup (hs.map U.int)) G'
def cl__law_weights : List (Str × USp) := [("_law_pick", sp_pick)]
theorem l1__law_weights' {p g ra : Addr} {up share many M : Int} {om : Option U} (u1 : 1 ≤ up) (u2 : up ≤ 64) (s1 : 1 ≤ share) (m1 : 1 ≤ many) (m2 : many ≤ 64) (hM0 : 0 ≤ M) (hM : M * (many / up) ≤ 60000) (np : p ≠ ra) (ng : g ≠ ra) (D : UE)
    (qn : ∀ o6 o7 o8 o9 r xs G, Inv up many M r xs → Pur G p g → G ra = some (.lst (xs.map U.int)) → D.nx [some (.ref p), some (.int up), some (.int share), some (.int many), om, some (.ref ra), o6, o7, o8, o9] G) :
    ∀ (n : Nat) (r : Int) (xs : List Int) (o6 o7 o8 o9 : Option U) (G : UH), 0 ≤ r → (∀ z ∈ rangeI r share n, z < up ∧ z < many) → Inv up many M r xs → Pur G p g → G ra = some (.lst (xs.map U.int)) →
    forU [] (trG (.nm 7)) (trSs (TB cl__law_weights) (GM cl__law_weights) l1__law_weights) D (List.map U.int (rangeI r share n)) [some (.ref p), some (.int up), some (.int share), some (.int many), om, some (.ref ra), o6, o7, o8, o9] G
  | 0, r, xs, o6, o7, o8, o9, G, r0, hz, hI, hP, hra => ⟨trivial, qn _ _ _ _ r xs G hI hP hra⟩
  | n + 1, r, xs, o6, o7, o8, o9, G, r0, hz, hI, hP, hra => by
    obtain ⟨ru, rm⟩ := hz r List.mem_cons_self
    have next : ∀ xs o6 o7 o8 o9 G, Inv up many M (r + share) xs → Pur G p g → G ra = some (.lst (xs.map U.int)) → forU [] (trG (.nm 7)) (trSs (TB cl__law_weights) (GM cl__law_weights) l1__law_weights) D (List.map U.int (rangeI (r + share) share n)) [some (.ref p), some (.int up), some (.int share), some (.int many), om, some (.ref ra), o6, o7, o8, o9] G :=
      fun xs o6 o7 o8 o9 G hI hP hra => l1__law_weights' u1 u2 s1 m1 m2 hM0 hM np ng D qn n (r + share) xs _ _ _ _ G (by omega) (fun z h => hz z (List.mem_cons_of_mem _ h)) hI hP hra
    obtain ⟨l, el, l0, lm, lr, hb⟩ := hI.last u1 r0 ru rm hM0 hM
    refine ⟨trivial, ?_⟩
    generalize forU _ _ _ D (List.map U.int (rangeI (r + share) share n)) = TT at next ⊢
    have lg := line_ge
    have hlen := hI.len
    simp only [trSs, trS, trE, trT, trX, pl, trA, trO, trC, trI, uBin_s, uUn_s, uVar_s, uC_s, getS, setS, uOp, uAdd, uSub, uMul, uDiv, uMod, uPow, uNeg, uCmp, uEqF, uLt, uLe, uGt, uGe, uIsF, isNonU, uTru, Blt.fn, uLen, uAbs, uMax2, uMin2, uInt, uIx, startU, gam_fn, gam_gl, tab_xcs, tab_sub, UD_nx, UD_rt, UD_bk, UD_ct, UD_ex, spAt, glAt, gls, seqOf, List.map_cons, List.map_nil, List.cons_append, List.nil_append, List.length_cons, List.length_nil, List.replicate, Nat.reduceAdd, Nat.reduceSub, Nat.zero_add, reduceIte, Bool.false_eq_true, Bool.true_eq_false, Bool.false_bne, Bool.true_bne, Bool.not_true, Bool.not_false, Bool.not_not, List.reverse_cons, List.reverse_nil, Option.map_some, Option.map_none, up_same, uTuple, uList, uSet, atI_zero, atI_one, ixN_20, ixN_zero, List.set_cons_zero, uPow, trG, l1__law_weights]
    refine ⟨divS (by omega) (by omega), mulR (by omega) (by omega), ?_⟩
    rw [el]
    simp only [trSs, trS, trE, trT, trX, pl, trA, trO, trC, trI, uBin_s, uUn_s, uVar_s, uC_s, getS, setS, uOp, uAdd, uSub, uMul, uDiv, uMod, uPow, uNeg, uCmp, uEqF, uLt, uLe, uGt, uGe, uIsF, isNonU, uTru, Blt.fn, uLen, uAbs, uMax2, uMin2, uInt, uIx, startU, gam_fn, gam_gl, tab_xcs, tab_sub, UD_nx, UD_rt, UD_bk, UD_ct, UD_ex, spAt, glAt, gls, seqOf, List.map_cons, List.map_nil, List.cons_append, List.nil_append, List.length_cons, List.length_nil, List.replicate, Nat.reduceAdd, Nat.reduceSub, Nat.zero_add, reduceIte, Bool.false_eq_true, Bool.true_eq_false, Bool.false_bne, Bool.true_bne, Bool.not_true, Bool.not_false, Bool.not_not, List.reverse_cons, List.reverse_nil, Option.map_some, Option.map_none, up_same, uTuple, uList, uSet, atI_zero, atI_one, ixN_20, ixN_zero, List.set_cons_zero, uPow, t2__law_weights, trG]
    refine ⟨by unfold small62; omega, by unfold small62; omega, by omega, by omega, ?_⟩
    intro q hq
    have nq : ra ≠ q := fun z => by subst z; rw [hq] at hra; cases hra
    have hx : ∀ acc, UL.up G q (.lst acc) ra = some (.lst (xs.map U.int)) := fun acc => by rw [up_ne nq]; exact hra
    rw [rangeU_map]
    have hr2 := rlen_le (i := r) (j := many) (c := up) (by omega)
    refine lcU_map (f := fun y => .int (xs.getD (intV y).toNat 0)) (fun _ => depsNil) _ [] (by rw [List.length_map, rangeI_len, List.length_nil]; omega) ?_ ?_
    · intro y hy acc K1 K0 k1
      obtain ⟨z, hz, rfl⟩ := List.mem_map.mp hy
      obtain ⟨i, hi, ez⟩ := rangeI_mem hz
      have hlt := rlen_lt (by omega) hi
      have hnn : 0 ≤ (i : Int) * up := Int.mul_nonneg (by omega) (by omega)
      simp only [trSs, trS, trE, trT, trX, pl, trA, trO, trC, trI, uBin_s, uUn_s, uVar_s, uC_s, getS, setS, uOp, uAdd, uSub, uMul, uDiv, uMod, uPow, uNeg, uCmp, uEqF, uLt, uLe, uGt, uGe, uIsF, isNonU, uTru, Blt.fn, uLen, uAbs, uMax2, uMin2, uInt, uIx, startU, gam_fn, gam_gl, tab_xcs, tab_sub, UD_nx, UD_rt, UD_bk, UD_ct, UD_ex, spAt, glAt, gls, seqOf, List.map_cons, List.map_nil, List.cons_append, List.nil_append, List.length_cons, List.length_nil, List.replicate, Nat.reduceAdd, Nat.reduceSub, Nat.zero_add, reduceIte, Bool.false_eq_true, Bool.true_eq_false, Bool.false_bne, Bool.true_bne, Bool.not_true, Bool.not_false, Bool.not_not, List.reverse_cons, List.reverse_nil, Option.map_some, Option.map_none, up_same, uTuple, uList, uSet, atI_zero, atI_one, ixN_20, ixN_zero, List.set_cons_zero, uPow, slotsG, slotsGs, wipeU, trG, hx, atI_int (show 0 ≤ z by omega) (show z < xs.length by omega)]
      exact k1
    · have e1 : ((rangeI r up (rlen r many up)).map U.int).map (fun y => U.int (xs.getD (intV y).toNat 0)) = ((rangeI r up (rlen r many up)).map fun j => xs.getD j.toNat 0).map U.int := by simp [intV]
      rw [List.nil_append, e1]
      simp only [trSs, trS, trE, trT, trX, pl, trA, trO, trC, trI, uBin_s, uUn_s, uVar_s, uC_s, getS, setS, uOp, uAdd, uSub, uMul, uDiv, uMod, uPow, uNeg, uCmp, uEqF, uLt, uLe, uGt, uGe, uIsF, isNonU, uTru, Blt.fn, uLen, uAbs, uMax2, uMin2, uInt, uIx, startU, gam_fn, gam_gl, tab_xcs, tab_sub, UD_nx, UD_rt, UD_bk, UD_ct, UD_ex, spAt, glAt, gls, seqOf, List.map_cons, List.map_nil, List.cons_append, List.nil_append, List.length_cons, List.length_nil, List.replicate, Nat.reduceAdd, Nat.reduceSub, Nat.zero_add, reduceIte, Bool.false_eq_true, Bool.true_eq_false, Bool.false_bne, Bool.true_bne, Bool.not_true, Bool.not_false, Bool.not_not, List.reverse_cons, List.reverse_nil, Option.map_some, Option.map_none, up_same, uTuple, uList, uSet, atI_zero, atI_one, ixN_20, ixN_zero, List.set_cons_zero, uPow, uSum, uIntL, intsOf_map, hx, atI_int l0 (show l < xs.length by omega)]
      simp only [trSs, trS, trE, trT, trX, pl, trA, trO, trC, trI, uBin_s, uUn_s, uVar_s, uC_s, getS, setS, uOp, uAdd, uSub, uMul, uDiv, uMod, uPow, uNeg, uCmp, uEqF, uLt, uLe, uGt, uGe, uIsF, isNonU, uTru, Blt.fn, uLen, uAbs, uMax2, uMin2, uInt, uIx, startU, gam_fn, gam_gl, tab_xcs, tab_sub, UD_nx, UD_rt, UD_bk, UD_ct, UD_ex, spAt, glAt, gls, seqOf, List.map_cons, List.map_nil, List.cons_append, List.nil_append, List.length_cons, List.length_nil, List.replicate, Nat.reduceAdd, Nat.reduceSub, Nat.zero_add, reduceIte, Bool.false_eq_true, Bool.true_eq_false, Bool.false_bne, Bool.true_bne, Bool.not_true, Bool.not_false, Bool.not_not, List.reverse_cons, List.reverse_nil, Option.map_some, Option.map_none, up_same, uTuple, uList, uSet, atI_zero, atI_one, ixN_20, ixN_zero, List.set_cons_zero, uPow, t1__law_weights, hx, List.length_map, ixN_nat l0 (show l < xs.length by omega)]
      refine ⟨_, .refl _, next _ _ _ _ _ _ (hI.step (by omega) l0 lr ?_) ((hP.upf hq).upn np ng) (by rw [up_same, List.map_set])⟩
      unfold Bnd at *
      omega
theorem l2__law_weights' {p g ra : Addr} {up share many : Int} {om : Option U} (u1 : 1 ≤ up) (u2 : up ≤ 64) (s1 : 1 ≤ share) (s2 : share ≤ up) (np : p ≠ ra) (ng : g ≠ ra) (D : UE)
    (qn : ∀ (o6 o7 o8 o9 : Option U) (xs : List Int) (G : UH), (xs.length : Int) = many → (∀ x ∈ xs, Bnd 65536 x) → Pur G p g → G ra = some (.lst (xs.map U.int)) → D.nx [some (.ref p), some (.int up), some (.int share), some (.int many), om, some (.ref ra), o6, o7, o8, o9] G) :
    ∀ (ks : List Int) (xs : List Int) (B : Int) (o6 o7 o8 o9 : Option U) (G : UH), B + 700 * ks.length ≤ 65536 → (xs.length : Int) = many → (∀ x ∈ xs, Bnd B x) → Pur G p g → G ra = some (.lst (xs.map U.int)) →
    forU [] (trG (.nm 6)) (trSs (TB cl__law_weights) (GM cl__law_weights) l2__law_weights) D (List.map U.int ks) [some (.ref p), some (.int up), some (.int share), some (.int many), om, some (.ref ra), o6, o7, o8, o9] G
  | [], xs, B, o6, o7, o8, o9, G, hB, hl, hb, hP, hra => ⟨trivial, qn _ _ _ _ xs G hl (fun x hx => by have := hb x hx; unfold Bnd at *; simp only [List.length_nil] at hB; omega) hP hra⟩
  | k :: ks, xs, B, o6, o7, o8, o9, G, hB, hl, hb, hP, hra => by
    have next : ∀ (xs : List Int) (B : Int) (o6 o7 o8 o9 : Option U) (G : UH), B + 700 * ks.length ≤ 65536 → (xs.length : Int) = many → (∀ x ∈ xs, Bnd B x) → Pur G p g → G ra = some (.lst (xs.map U.int)) → forU [] (trG (.nm 6)) (trSs (TB cl__law_weights) (GM cl__law_weights) l2__law_weights) D (List.map U.int ks) [some (.ref p), some (.int up), some (.int share), some (.int many), om, some (.ref ra), o6, o7, o8, o9] G :=
      fun xs B o6 o7 o8 o9 G => l2__law_weights' u1 u2 s1 s2 np ng D qn ks xs B o6 o7 o8 o9 G
    refine ⟨trivial, ?_⟩
    generalize forU _ _ _ D (List.map U.int ks) = TT at next ⊢
    have lg := line_ge
    have hB' : B + 700 + 700 * ks.length ≤ 65536 := by simp only [List.length_cons] at hB; omega
    have hs : 1 ≤ up / share := (Int.le_ediv_iff_mul_le (by omega)).mpr (by omega)
    have hs2 : up / share ≤ up := Int.ediv_le_self share (by omega)
    simp only [trSs, trS, trE, trT, trX, pl, trA, trO, trC, trI, uBin_s, uUn_s, uVar_s, uC_s, getS, setS, uOp, uAdd, uSub, uMul, uDiv, uMod, uPow, uNeg, uCmp, uEqF, uLt, uLe, uGt, uGe, uIsF, isNonU, uTru, Blt.fn, uLen, uAbs, uMax2, uMin2, uInt, uIx, startU, gam_fn, gam_gl, tab_xcs, tab_sub, UD_nx, UD_rt, UD_bk, UD_ct, UD_ex, spAt, glAt, gls, seqOf, List.map_cons, List.map_nil, List.cons_append, List.nil_append, List.length_cons, List.length_nil, List.replicate, Nat.reduceAdd, Nat.reduceSub, Nat.zero_add, reduceIte, Bool.false_eq_true, Bool.true_eq_false, Bool.false_bne, Bool.true_bne, Bool.not_true, Bool.not_false, Bool.not_not, List.reverse_cons, List.reverse_nil, Option.map_some, Option.map_none, up_same, uTuple, uList, uSet, atI_zero, atI_one, ixN_20, ixN_zero, List.set_cons_zero, uPow, trG, l2__law_weights, cl__law_weights]
    refine ⟨divS (by omega) (by omega), p, g, _, rfl, hP, by omega, by omega, fun r G1 r0 r1 hP1 f1 => ?_⟩
    have hra1 := f1 _ _ np.symm ng.symm hra
    refine ⟨mulL (by omega) (by omega), ?_⟩
    have hr0 : 0 ≤ share * r := Int.mul_nonneg (by omega) r0
    generalize share * r = j at hr0
    by_cases c : j < many
    · simp only [trSs, trS, trE, trT, trX, pl, trA, trO, trC, trI, uBin_s, uUn_s, uVar_s, uC_s, getS, setS, uOp, uAdd, uSub, uMul, uDiv, uMod, uPow, uNeg, uCmp, uEqF, uLt, uLe, uGt, uGe, uIsF, isNonU, uTru, Blt.fn, uLen, uAbs, uMax2, uMin2, uInt, uIx, startU, gam_fn, gam_gl, tab_xcs, tab_sub, UD_nx, UD_rt, UD_bk, UD_ct, UD_ex, spAt, glAt, gls, seqOf, List.map_cons, List.map_nil, List.cons_append, List.nil_append, List.length_cons, List.length_nil, List.replicate, Nat.reduceAdd, Nat.reduceSub, Nat.zero_add, reduceIte, Bool.false_eq_true, Bool.true_eq_false, Bool.false_bne, Bool.true_bne, Bool.not_true, Bool.not_false, Bool.not_not, List.reverse_cons, List.reverse_nil, Option.map_some, Option.map_none, up_same, uTuple, uList, uSet, atI_zero, atI_one, ixN_20, ixN_zero, List.set_cons_zero, uPow, t3__law_weights, cl__law_weights, c, decide_true, hra1, atI_int hr0 (show j < xs.length by omega)]
      refine ⟨p, g, _, rfl, hP1, by decide, by decide, fun v G2 v0 v1 hP2 f2 => ?_⟩
      have hra2 := f2 _ _ np.symm ng.symm hra1
      refine ⟨by omega, fun q hq => ?_⟩
      refine ⟨p, g, _, rfl, hP2.upf hq, by decide, by decide, fun w G3 w0 w1 hP3 f3 => ?_⟩
      have hqp := hP2.ne hq
      have nq : ra ≠ q := fun z => by subst z; rw [hq] at hra2; cases hra2
      have hra3 := f3 ra _ np.symm ng.symm ((up_ne nq).trans hra2)
      have hq3 := f3 q _ hqp.1.symm hqp.2.symm up_same
      have hw : ∃ d, atI [U.int 1, U.int (-1), U.int (1 + v)] w = some (.int d) ∧ Bnd 700 d := by
        have : w = 0 ∨ w = 1 ∨ w = 2 := by omega
        rcases this with rfl | rfl | rfl
        · exact ⟨1, rfl, by unfold Bnd; omega⟩
        · exact ⟨-1, rfl, by unfold Bnd; omega⟩
        · exact ⟨1 + v, rfl, by unfold Bnd; omega⟩
      obtain ⟨d, hd, bd⟩ := hw
      simp only [trSs, trS, trE, trT, trX, pl, trA, trO, trC, trI, uBin_s, uUn_s, uVar_s, uC_s, getS, setS, uOp, uAdd, uSub, uMul, uDiv, uMod, uPow, uNeg, uCmp, uEqF, uLt, uLe, uGt, uGe, uIsF, isNonU, uTru, Blt.fn, uLen, uAbs, uMax2, uMin2, uInt, uIx, startU, gam_fn, gam_gl, tab_xcs, tab_sub, UD_nx, UD_rt, UD_bk, UD_ct, UD_ex, spAt, glAt, gls, seqOf, List.map_cons, List.map_nil, List.cons_append, List.nil_append, List.length_cons, List.length_nil, List.replicate, Nat.reduceAdd, Nat.reduceSub, Nat.zero_add, reduceIte, Bool.false_eq_true, Bool.true_eq_false, Bool.false_bne, Bool.true_bne, Bool.not_true, Bool.not_false, Bool.not_not, List.reverse_cons, List.reverse_nil, Option.map_some, Option.map_none, up_same, uTuple, uList, uSet, atI_zero, atI_one, ixN_20, ixN_zero, List.set_cons_zero, uPow, hq3, hd, hra3, List.length_map, ixN_nat hr0 (show j < xs.length by omega)]
      refine ⟨_, .refl _, next (xs.set j.toNat (xs.getD j.toNat 0 + d)) (B + 700) _ _ _ _ _ hB' (by rw [List.length_set]; exact hl) ?_ (hP3.upn np ng) (by rw [up_same, List.map_set])⟩
      intro x hx
      rcases List.mem_or_eq_of_mem_set hx with hx | hx
      · have := hb x hx
        unfold Bnd at *
        omega
      · have := hb _ (show xs.getD j.toNat 0 ∈ xs from by
          rw [List.getD_eq_getElem?_getD, List.getElem?_eq_getElem (by omega)]
          exact List.getElem_mem _)
        unfold Bnd at *
        omega
    · simp only [trSs, trS, trE, trT, trX, pl, trA, trO, trC, trI, uBin_s, uUn_s, uVar_s, uC_s, getS, setS, uOp, uAdd, uSub, uMul, uDiv, uMod, uPow, uNeg, uCmp, uEqF, uLt, uLe, uGt, uGe, uIsF, isNonU, uTru, Blt.fn, uLen, uAbs, uMax2, uMin2, uInt, uIx, startU, gam_fn, gam_gl, tab_xcs, tab_sub, UD_nx, UD_rt, UD_bk, UD_ct, UD_ex, spAt, glAt, gls, seqOf, List.map_cons, List.map_nil, List.cons_append, List.nil_append, List.length_cons, List.length_nil, List.replicate, Nat.reduceAdd, Nat.reduceSub, Nat.zero_add, reduceIte, Bool.false_eq_true, Bool.true_eq_false, Bool.false_bne, Bool.true_bne, Bool.not_true, Bool.not_false, Bool.not_not, List.reverse_cons, List.reverse_nil, Option.map_some, Option.map_none, up_same, uTuple, uList, uSet, atI_zero, atI_one, ixN_20, ixN_zero, List.set_cons_zero, uPow, t3__law_weights, c, decide_false]
      exact ⟨_, .refl _, next xs (B + 700) _ _ _ _ _ hB' hl (fun x hx => by have := hb x hx; unfold Bnd at *; omega) hP1 hra1⟩
theorem w__law_weights (us : List U) (G : UH) (Q : UK) (E : UXn → UH → Prop) (h : sp__law_weights us G Q E) : trSs (TB cl__law_weights) (GM cl__law_weights) b__law_weights (UD Q E) (startU n__law_weights us) G := by
  obtain ⟨p, g, up, share, rfl, hP, u1, u2, s1, s2, k⟩ := h
  have lg := line_ge
  -- behind the row
  have st6 : ∀ (many M : Int) (om o6 : Option U) (xs : List Int) (ra : Addr) (G1 : UH), 1 ≤ many → many ≤ 64 → 0 ≤ M → M ≤ 60000 → M * (many / up) ≤ 60000 → (xs.length : Int) = many → (∀ x ∈ xs, Bnd M x) → Pur G1 p g → G1 ra = some (.lst (xs.map U.int)) → p ≠ ra → g ≠ ra →
      trSs (TB cl__law_weights) (GM cl__law_weights) t6__law_weights (UD Q E) [some (.ref p), some (.int up), some (.int share), some (.int many), om, some (.ref ra), o6, none, none, none] G1 := by
    intro many M om o6 xs ra G1 m1 m2 M0 M1 hM hl hb hP1 hra np ng
    have hI : Inv up many M 0 xs := ⟨hl, fun i hi => by
      have := hb _ (show xs.getD i 0 ∈ xs from by
        rw [List.getD_eq_getElem?_getD, List.getElem?_eq_getElem hi]
        exact List.getElem_mem _)
      unfold Bnd at *
      omega, fun i hi _ => hb _ (by
        rw [List.getD_eq_getElem?_getD, List.getElem?_eq_getElem hi]
        exact List.getElem_mem _)⟩
    simp only [trSs, trS, trE, trT, trX, pl, trA, trO, trC, trI, uBin_s, uUn_s, uVar_s, uC_s, getS, setS, uOp, uAdd, uSub, uMul, uDiv, uMod, uPow, uNeg, uCmp, uEqF, uLt, uLe, uGt, uGe, uIsF, isNonU, uTru, Blt.fn, uLen, uAbs, uMax2, uMin2, uInt, uIx, startU, gam_fn, gam_gl, tab_xcs, tab_sub, UD_nx, UD_rt, UD_bk, UD_ct, UD_ex, spAt, glAt, gls, seqOf, List.map_cons, List.map_nil, List.cons_append, List.nil_append, List.length_cons, List.length_nil, List.replicate, Nat.reduceAdd, Nat.reduceSub, Nat.zero_add, reduceIte, Bool.false_eq_true, Bool.true_eq_false, Bool.false_bne, Bool.true_bne, Bool.not_true, Bool.not_false, Bool.not_not, List.reverse_cons, List.reverse_nil, Option.map_some, Option.map_none, up_same, uTuple, uList, uSet, atI_zero, atI_one, ixN_20, ixN_zero, List.set_cons_zero, uPow, t6__law_weights, trG]
    refine ⟨by unfold small62; omega, by unfold small62; omega, by omega, by omega, ?_⟩
    rw [rangeU_map]
    refine l1__law_weights' u1 u2 s1 m1 m2 M0 hM np ng _ (fun o6 o7 o8 o9 r xs G2 hI2 hP2 hra2 => ?_) _ 0 xs _ _ _ _ G1 (by omega) (fun z hz => ?_) hI hP1 hra
    · simp only [trSs, trS, trE, trT, trX, pl, trA, trO, trC, trI, uBin_s, uUn_s, uVar_s, uC_s, getS, setS, uOp, uAdd, uSub, uMul, uDiv, uMod, uPow, uNeg, uCmp, uEqF, uLt, uLe, uGt, uGe, uIsF, isNonU, uTru, Blt.fn, uLen, uAbs, uMax2, uMin2, uInt, uIx, startU, gam_fn, gam_gl, tab_xcs, tab_sub, UD_nx, UD_rt, UD_bk, UD_ct, UD_ex, spAt, glAt, gls, seqOf, List.map_cons, List.map_nil, List.cons_append, List.nil_append, List.length_cons, List.length_nil, List.replicate, Nat.reduceAdd, Nat.reduceSub, Nat.zero_add, reduceIte, Bool.false_eq_true, Bool.true_eq_false, Bool.false_bne, Bool.true_bne, Bool.not_true, Bool.not_false, Bool.not_not, List.reverse_cons, List.reverse_nil, Option.map_some, Option.map_none, up_same, uTuple, uList, uSet, atI_zero, atI_one, ixN_20, ixN_zero, List.set_cons_zero, uPow, t5__law_weights, cl__law_weights]
      refine ⟨by omega, fun q hq => ?_⟩
      refine ⟨p, g, _, rfl, hP2.upf hq, by decide, by decide, fun w G3 w0 w1 hP3 f3 => ?_⟩
      have hqp := hP2.ne hq
      have nq : ra ≠ q := fun z => by subst z; rw [hq] at hra2; cases hra2
      have hra3 := f3 ra _ np.symm ng.symm ((up_ne nq).trans hra2)
      have hq3 := f3 q _ hqp.1.symm hqp.2.symm up_same
      have hw : ∃ d, atI [U.int 0, U.int 0, U.int 1, U.int 2] w = some (.int d) ∧ 0 ≤ d ∧ d ≤ 2 := by
        have : w = 0 ∨ w = 1 ∨ w = 2 ∨ w = 3 := by omega
        rcases this with rfl | rfl | rfl | rfl
        · exact ⟨0, rfl, by omega⟩
        · exact ⟨0, rfl, by omega⟩
        · exact ⟨1, rfl, by omega⟩
        · exact ⟨2, rfl, by omega⟩
      obtain ⟨d, hd, d0, d1⟩ := hw
      simp only [trSs, trS, trE, trT, trX, pl, trA, trO, trC, trI, uBin_s, uUn_s, uVar_s, uC_s, getS, setS, uOp, uAdd, uSub, uMul, uDiv, uMod, uPow, uNeg, uCmp, uEqF, uLt, uLe, uGt, uGe, uIsF, isNonU, uTru, Blt.fn, uLen, uAbs, uMax2, uMin2, uInt, uIx, startU, gam_fn, gam_gl, tab_xcs, tab_sub, UD_nx, UD_rt, UD_bk, UD_ct, UD_ex, spAt, glAt, gls, seqOf, List.map_cons, List.map_nil, List.cons_append, List.nil_append, List.length_cons, List.length_nil, List.replicate, Nat.reduceAdd, Nat.reduceSub, Nat.zero_add, reduceIte, Bool.false_eq_true, Bool.true_eq_false, Bool.false_bne, Bool.true_bne, Bool.not_true, Bool.not_false, Bool.not_not, List.reverse_cons, List.reverse_nil, Option.map_some, Option.map_none, up_same, uTuple, uList, uSet, atI_zero, atI_one, ixN_20, ixN_zero, List.set_cons_zero, uPow, hq3, hd]
      refine ⟨by unfold small62; omega, ?_⟩
      rw [rangeU_map]
      refine l2__law_weights' u1 u2 s1 s2 np ng _ (fun o6 o7 o8 o9 ys G4 hl4 hb4 hP4 hra4 => ?_) _ xs 64096 _ _ _ _ G3 (by rw [rangeI_len]; omega) hI2.len (fun x hx => ?_) hP3 hra3
      · simp only [trSs, trS, trE, trT, trX, pl, trA, trO, trC, trI, uBin_s, uUn_s, uVar_s, uC_s, getS, setS, uOp, uAdd, uSub, uMul, uDiv, uMod, uPow, uNeg, uCmp, uEqF, uLt, uLe, uGt, uGe, uIsF, isNonU, uTru, Blt.fn, uLen, uAbs, uMax2, uMin2, uInt, uIx, startU, gam_fn, gam_gl, tab_xcs, tab_sub, UD_nx, UD_rt, UD_bk, UD_ct, UD_ex, spAt, glAt, gls, seqOf, List.map_cons, List.map_nil, List.cons_append, List.nil_append, List.length_cons, List.length_nil, List.replicate, Nat.reduceAdd, Nat.reduceSub, Nat.zero_add, reduceIte, Bool.false_eq_true, Bool.true_eq_false, Bool.false_bne, Bool.true_bne, Bool.not_true, Bool.not_false, Bool.not_not, List.reverse_cons, List.reverse_nil, Option.map_some, Option.map_none, up_same, uTuple, uList, uSet, atI_zero, atI_one, ixN_20, ixN_zero, List.set_cons_zero, uPow, t4__law_weights, hra4]
        exact fin.of (k ys G4 (by omega) (by omega) hb4 hP4)
      · obtain ⟨i, hi⟩ := List.getElem?_of_mem hx
        have := hI2.all i (List.getElem?_eq_some_iff.mp hi).1
        rw [List.getD_eq_getElem?_getD, hi] at this
        exact this
    · obtain ⟨i, hi, e⟩ := rangeI_mem hz
      have := rlen_lt (by omega) hi
      omega
  have st9 : ∀ (many : Int) (G1 : UH), 1 ≤ many → many ≤ 64 → Pur G1 p g → trSs (TB cl__law_weights) (GM cl__law_weights) t9__law_weights (UD Q E) [some (.ref p), some (.int up), some (.int share), some (.int many), none, none, none, none, none, none] G1 := by
    intro many G1 m1 m2 hP1
    have q0 : 0 ≤ many / up := Int.ediv_nonneg (by omega) (by omega)
    have q1 : many / up ≤ 64 := by
      have := Int.ediv_le_self up (show 0 ≤ many by omega)
      omega
    simp only [trSs, trS, trE, trT, trX, pl, trA, trO, trC, trI, uBin_s, uUn_s, uVar_s, uC_s, getS, setS, uOp, uAdd, uSub, uMul, uDiv, uMod, uPow, uNeg, uCmp, uEqF, uLt, uLe, uGt, uGe, uIsF, isNonU, uTru, Blt.fn, uLen, uAbs, uMax2, uMin2, uInt, uIx, startU, gam_fn, gam_gl, tab_xcs, tab_sub, UD_nx, UD_rt, UD_bk, UD_ct, UD_ex, spAt, glAt, gls, seqOf, List.map_cons, List.map_nil, List.cons_append, List.nil_append, List.length_cons, List.length_nil, List.replicate, Nat.reduceAdd, Nat.reduceSub, Nat.zero_add, reduceIte, Bool.false_eq_true, Bool.true_eq_false, Bool.false_bne, Bool.true_bne, Bool.not_true, Bool.not_false, Bool.not_not, List.reverse_cons, List.reverse_nil, Option.map_some, Option.map_none, up_same, uTuple, uList, uSet, atI_zero, atI_one, ixN_20, ixN_zero, List.set_cons_zero, uPow, t9__law_weights, trG]
    refine ⟨divS (by omega) (by omega), divS (by omega) (by omega), ?_⟩
    have M0 : 0 ≤ 60000 / (many / up + 1) := Int.ediv_nonneg (by omega) (by omega)
    have M1 : 60000 / (many / up + 1) ≤ 60000 := Int.ediv_le_self _ (by omega)
    have M2 : 60000 / (many / up + 1) * (many / up) ≤ 60000 := by
      have := Int.ediv_mul_le 60000 (show many / up + 1 ≠ 0 by omega)
      rw [Int.mul_add] at this
      omega
    generalize 60000 / (many / up + 1) = M at M0 M1 M2
    simp only [trSs, trS, trE, trT, trX, pl, trA, trO, trC, trI, uBin_s, uUn_s, uVar_s, uC_s, getS, setS, uOp, uAdd, uSub, uMul, uDiv, uMod, uPow, uNeg, uCmp, uEqF, uLt, uLe, uGt, uGe, uIsF, isNonU, uTru, Blt.fn, uLen, uAbs, uMax2, uMin2, uInt, uIx, startU, gam_fn, gam_gl, tab_xcs, tab_sub, UD_nx, UD_rt, UD_bk, UD_ct, UD_ex, spAt, glAt, gls, seqOf, List.map_cons, List.map_nil, List.cons_append, List.nil_append, List.length_cons, List.length_nil, List.replicate, Nat.reduceAdd, Nat.reduceSub, Nat.zero_add, reduceIte, Bool.false_eq_true, Bool.true_eq_false, Bool.false_bne, Bool.true_bne, Bool.not_true, Bool.not_false, Bool.not_not, List.reverse_cons, List.reverse_nil, Option.map_some, Option.map_none, up_same, uTuple, uList, uSet, atI_zero, atI_one, ixN_20, ixN_zero, List.set_cons_zero, uPow, t8__law_weights, trG]
    refine ⟨by unfold small62; omega, ?_⟩
    rw [rangeU_map]
    intro ra hra
    have hne := hP1.ne hra
    refine lcU_acc (fun G => Pur G p g) (fun u => ∃ x, u = .int x ∧ Bnd M x) (fun G acc h => h.upn hne.1 hne.2) many.toNat (by omega) ?_ _ [] _ (by rw [List.length_map, rangeI_len]; simp) (hP1.upf hra) up_same (by simp) ?_
    · intro G2 us hP2 hus hB hlen
      have hi : ∃ xs : List Int, us = xs.map U.int ∧ ∀ x ∈ xs, Bnd M x := by
        refine ⟨us.map intV, ?_, ?_⟩
        · rw [List.map_map]
          refine (List.map_id us).symm.trans (List.map_congr_left fun u hu => ?_)
          obtain ⟨x, rfl, _⟩ := hB u hu
          rfl
        · intro x hx
          obtain ⟨u, hu, rfl⟩ := List.mem_map.mp hx
          obtain ⟨z, rfl, hz⟩ := hB u hu
          exact hz
      obtain ⟨xs, rfl, hxs⟩ := hi
      rw [List.length_map] at hlen
      simp only [trSs, trS, trE, trT, trX, pl, trA, trO, trC, trI, uBin_s, uUn_s, uVar_s, uC_s, getS, setS, uOp, uAdd, uSub, uMul, uDiv, uMod, uPow, uNeg, uCmp, uEqF, uLt, uLe, uGt, uGe, uIsF, isNonU, uTru, Blt.fn, uLen, uAbs, uMax2, uMin2, uInt, uIx, startU, gam_fn, gam_gl, tab_xcs, tab_sub, UD_nx, UD_rt, UD_bk, UD_ct, UD_ex, spAt, glAt, gls, seqOf, List.map_cons, List.map_nil, List.cons_append, List.nil_append, List.length_cons, List.length_nil, List.replicate, Nat.reduceAdd, Nat.reduceSub, Nat.zero_add, reduceIte, Bool.false_eq_true, Bool.true_eq_false, Bool.false_bne, Bool.true_bne, Bool.not_true, Bool.not_false, Bool.not_not, List.reverse_cons, List.reverse_nil, Option.map_some, Option.map_none, up_same, uTuple, uList, uSet, atI_zero, atI_one, ixN_20, ixN_zero, List.set_cons_zero, uPow, t7__law_weights, cl__law_weights, trG]
      refine ⟨p, g, _, rfl, hP2, by decide, by decide, fun r G3 r0 r1 hP3 f3 => ?_⟩
      have hra3 := f3 ra _ hne.1.symm hne.2.symm hus
      by_cases c : r = 0
      · simp only [trSs, trS, trE, trT, trX, pl, trA, trO, trC, trI, uBin_s, uUn_s, uVar_s, uC_s, getS, setS, uOp, uAdd, uSub, uMul, uDiv, uMod, uPow, uNeg, uCmp, uEqF, uLt, uLe, uGt, uGe, uIsF, isNonU, uTru, Blt.fn, uLen, uAbs, uMax2, uMin2, uInt, uIx, startU, gam_fn, gam_gl, tab_xcs, tab_sub, UD_nx, UD_rt, UD_bk, UD_ct, UD_ex, spAt, glAt, gls, seqOf, List.map_cons, List.map_nil, List.cons_append, List.nil_append, List.length_cons, List.length_nil, List.replicate, Nat.reduceAdd, Nat.reduceSub, Nat.zero_add, reduceIte, Bool.false_eq_true, Bool.true_eq_false, Bool.false_bne, Bool.true_bne, Bool.not_true, Bool.not_false, Bool.not_not, List.reverse_cons, List.reverse_nil, Option.map_some, Option.map_none, up_same, uTuple, uList, uSet, atI_zero, atI_one, ixN_20, ixN_zero, List.set_cons_zero, uPow, c, decide_true, hra3]
        intro rb hrb
        have hnb := hP3.ne hrb
        have nq : ra ≠ rb := fun z => by subst z; rw [hrb] at hra3; cases hra3
        refine lcU_map (f := fun y => .int (intV y - intV y / 3 * 3)) (ds := [(ra, xs.map U.int)]) (fun acc => (show depsOk _ [(ra, xs.map U.int)] from ⟨by rw [up_ne nq]; exact hra3, trivial⟩)) _ [] (by rw [List.length_map, List.length_nil]; omega) ?_ ?_
        · intro y hy acc K1 K0 k1
          obtain ⟨x, hx, rfl⟩ := List.mem_map.mp hy
          simp only [trSs, trS, trE, trT, trX, pl, trA, trO, trC, trI, uBin_s, uUn_s, uVar_s, uC_s, getS, setS, uOp, uAdd, uSub, uMul, uDiv, uMod, uPow, uNeg, uCmp, uEqF, uLt, uLe, uGt, uGe, uIsF, isNonU, uTru, Blt.fn, uLen, uAbs, uMax2, uMin2, uInt, uIx, startU, gam_fn, gam_gl, tab_xcs, tab_sub, UD_nx, UD_rt, UD_bk, UD_ct, UD_ex, spAt, glAt, gls, seqOf, List.map_cons, List.map_nil, List.cons_append, List.nil_append, List.length_cons, List.length_nil, List.replicate, Nat.reduceAdd, Nat.reduceSub, Nat.zero_add, reduceIte, Bool.false_eq_true, Bool.true_eq_false, Bool.false_bne, Bool.true_bne, Bool.not_true, Bool.not_false, Bool.not_not, List.reverse_cons, List.reverse_nil, Option.map_some, Option.map_none, up_same, uTuple, uList, uSet, atI_zero, atI_one, ixN_20, ixN_zero, List.set_cons_zero, uPow, slotsG, slotsGs, wipeU, trG]
          exact ⟨divS (by decide) (by decide), mulR (by decide) (by decide), k1⟩
        · have e1 : (xs.map U.int).map (fun y => U.int (intV y - intV y / 3 * 3)) = (xs.map fun x => x - x / 3 * 3).map U.int := by simp [intV]
          rw [List.nil_append, e1]
          refine st6 many 2 _ _ _ rb _ m1 m2 (by decide) (by decide) (by omega) (by rw [List.length_map]; omega) (fun x hx => ?_) (hP3.upf hrb) up_same hnb.1 hnb.2
          obtain ⟨z, _, rfl⟩ := List.mem_map.mp hx
          unfold Bnd
          omega
      · simp only [trSs, trS, trE, trT, trX, pl, trA, trO, trC, trI, uBin_s, uUn_s, uVar_s, uC_s, getS, setS, uOp, uAdd, uSub, uMul, uDiv, uMod, uPow, uNeg, uCmp, uEqF, uLt, uLe, uGt, uGe, uIsF, isNonU, uTru, Blt.fn, uLen, uAbs, uMax2, uMin2, uInt, uIx, startU, gam_fn, gam_gl, tab_xcs, tab_sub, UD_nx, UD_rt, UD_bk, UD_ct, UD_ex, spAt, glAt, gls, seqOf, List.map_cons, List.map_nil, List.cons_append, List.nil_append, List.length_cons, List.length_nil, List.replicate, Nat.reduceAdd, Nat.reduceSub, Nat.zero_add, reduceIte, Bool.false_eq_true, Bool.true_eq_false, Bool.false_bne, Bool.true_bne, Bool.not_true, Bool.not_false, Bool.not_not, List.reverse_cons, List.reverse_nil, Option.map_some, Option.map_none, up_same, uTuple, uList, uSet, atI_zero, atI_one, ixN_20, ixN_zero, List.set_cons_zero, uPow, c, decide_false]
        exact st6 many M _ _ xs ra G3 m1 m2 M0 M1 M2 (by omega) hxs hP3 hra3 hne.1 hne.2
    · intro y hy acc G3 K1 K0 hP3 hacc kk
      simp only [trSs, trS, trE, trT, trX, pl, trA, trO, trC, trI, uBin_s, uUn_s, uVar_s, uC_s, getS, setS, uOp, uAdd, uSub, uMul, uDiv, uMod, uPow, uNeg, uCmp, uEqF, uLt, uLe, uGt, uGe, uIsF, isNonU, uTru, Blt.fn, uLen, uAbs, uMax2, uMin2, uInt, uIx, startU, gam_fn, gam_gl, tab_xcs, tab_sub, UD_nx, UD_rt, UD_bk, UD_ct, UD_ex, spAt, glAt, gls, seqOf, List.map_cons, List.map_nil, List.cons_append, List.nil_append, List.length_cons, List.length_nil, List.replicate, Nat.reduceAdd, Nat.reduceSub, Nat.zero_add, reduceIte, Bool.false_eq_true, Bool.true_eq_false, Bool.false_bne, Bool.true_bne, Bool.not_true, Bool.not_false, Bool.not_not, List.reverse_cons, List.reverse_nil, Option.map_some, Option.map_none, up_same, uTuple, uList, uSet, atI_zero, atI_one, ixN_20, ixN_zero, List.set_cons_zero, uPow, slotsG, slotsGs, wipeU, trG, cl__law_weights]
      refine ⟨mulL (by omega) (by omega), p, g, _, rfl, hP3, by omega, by omega, fun r G4 r0 r1 hP4 f4 => kk _ _ ⟨_, rfl, ?_⟩ hP4 (f4 _ _ hne.1.symm hne.2.symm hacc)⟩
      unfold Bnd
      omega
  simp only [trSs, trS, trE, trT, trX, pl, trA, trO, trC, trI, uBin_s, uUn_s, uVar_s, uC_s, getS, setS, uOp, uAdd, uSub, uMul, uDiv, uMod, uPow, uNeg, uCmp, uEqF, uLt, uLe, uGt, uGe, uIsF, isNonU, uTru, Blt.fn, uLen, uAbs, uMax2, uMin2, uInt, uIx, startU, gam_fn, gam_gl, tab_xcs, tab_sub, UD_nx, UD_rt, UD_bk, UD_ct, UD_ex, spAt, glAt, gls, seqOf, List.map_cons, List.map_nil, List.cons_append, List.nil_append, List.length_cons, List.length_nil, List.replicate, Nat.reduceAdd, Nat.reduceSub, Nat.zero_add, reduceIte, Bool.false_eq_true, Bool.true_eq_false, Bool.false_bne, Bool.true_bne, Bool.not_true, Bool.not_false, Bool.not_not, List.reverse_cons, List.reverse_nil, Option.map_some, Option.map_none, up_same, uTuple, uList, uSet, atI_zero, atI_one, ixN_20, ixN_zero, List.set_cons_zero, uPow, b__law_weights, n__law_weights, trG, cl__law_weights]
  refine ⟨mulL (by omega) (by omega), p, g, _, rfl, hP, by omega, by omega, fun r G1 r0 r1 hP1 _ => ?_⟩
  simp only [trSs, trS, trE, trT, trX, pl, trA, trO, trC, trI, uBin_s, uUn_s, uVar_s, uC_s, getS, setS, uOp, uAdd, uSub, uMul, uDiv, uMod, uPow, uNeg, uCmp, uEqF, uLt, uLe, uGt, uGe, uIsF, isNonU, uTru, Blt.fn, uLen, uAbs, uMax2, uMin2, uInt, uIx, startU, gam_fn, gam_gl, tab_xcs, tab_sub, UD_nx, UD_rt, UD_bk, UD_ct, UD_ex, spAt, glAt, gls, seqOf, List.map_cons, List.map_nil, List.cons_append, List.nil_append, List.length_cons, List.length_nil, List.replicate, Nat.reduceAdd, Nat.reduceSub, Nat.zero_add, reduceIte, Bool.false_eq_true, Bool.true_eq_false, Bool.false_bne, Bool.true_bne, Bool.not_true, Bool.not_false, Bool.not_not, List.reverse_cons, List.reverse_nil, Option.map_some, Option.map_none, up_same, uTuple, uList, uSet, atI_zero, atI_one, ixN_20, ixN_zero, List.set_cons_zero, uPow, t10__law_weights, trG, cl__law_weights]
  refine ⟨p, g, _, rfl, hP1, by decide, by decide, fun r2 G2 a b hP2 _ => ?_⟩
  by_cases c : r2 = 0
  · simp only [trSs, trS, trE, trT, trX, pl, trA, trO, trC, trI, uBin_s, uUn_s, uVar_s, uC_s, getS, setS, uOp, uAdd, uSub, uMul, uDiv, uMod, uPow, uNeg, uCmp, uEqF, uLt, uLe, uGt, uGe, uIsF, isNonU, uTru, Blt.fn, uLen, uAbs, uMax2, uMin2, uInt, uIx, startU, gam_fn, gam_gl, tab_xcs, tab_sub, UD_nx, UD_rt, UD_bk, UD_ct, UD_ex, spAt, glAt, gls, seqOf, List.map_cons, List.map_nil, List.cons_append, List.nil_append, List.length_cons, List.length_nil, List.replicate, Nat.reduceAdd, Nat.reduceSub, Nat.zero_add, reduceIte, Bool.false_eq_true, Bool.true_eq_false, Bool.false_bne, Bool.true_bne, Bool.not_true, Bool.not_false, Bool.not_not, List.reverse_cons, List.reverse_nil, Option.map_some, Option.map_none, up_same, uTuple, uList, uSet, atI_zero, atI_one, ixN_20, ixN_zero, List.set_cons_zero, uPow, c, decide_true]
    refine ⟨p, g, _, rfl, hP2, by omega, by omega, fun r3 G3 a b hP3 _ => ?_⟩
    exact st9 _ G3 (by omega) (by omega) hP3
  · simp only [trSs, trS, trE, trT, trX, pl, trA, trO, trC, trI, uBin_s, uUn_s, uVar_s, uC_s, getS, setS, uOp, uAdd, uSub, uMul, uDiv, uMod, uPow, uNeg, uCmp, uEqF, uLt, uLe, uGt, uGe, uIsF, isNonU, uTru, Blt.fn, uLen, uAbs, uMax2, uMin2, uInt, uIx, startU, gam_fn, gam_gl, tab_xcs, tab_sub, UD_nx, UD_rt, UD_bk, UD_ct, UD_ex, spAt, glAt, gls, seqOf, List.map_cons, List.map_nil, List.cons_append, List.nil_append, List.length_cons, List.length_nil, List.replicate, Nat.reduceAdd, Nat.reduceSub, Nat.zero_add, reduceIte, Bool.false_eq_true, Bool.true_eq_false, Bool.false_bne, Bool.true_bne, Bool.not_true, Bool.not_false, Bool.not_not, List.reverse_cons, List.reverse_nil, Option.map_some, Option.map_none, up_same, uTuple, uList, uSet, atI_zero, atI_one, ixN_20, ixN_zero, List.set_cons_zero, uPow, c, decide_false]
    exact st9 _ G2 (by omega) (by omega) hP2
end K71
set_option Elab.async false
set_option linter.all false
set_option autoImplicit false
set_option maxRecDepth 100000
set_option maxHeartbeats 4000000
namespace K71
open PySem PySem.Spec L2 UL
/-! ### _law_steady -/
def sp__law_steady : USp := fun us G Q _ => ∃ p g, us = [.ref p] ∧ Pur G p g ∧ ∀ G', Pur G' p g → Q (.bl true) G'
def cl__law_steady : List (Str × USp) := [("_law_pair", sp__law_pair), ("_law_common", sp__law_common), ("_law_weights", sp__law_weights), ("_law_bins", sp__law_bins), ("steady", sp_steady), ("_law_worth", sp__law_worth), ("_law_constant", sp__law_constant)]
theorem filt_int (p : Int → Bool) : ∀ ns : List Int, ((ns.map U.int).filter fun y => p (intV y)).map id = (ns.filter p).map U.int
  | [] => rfl
  | n :: ns => by
    have ih := filt_int p ns
    rw [List.map_cons, List.filter_cons, List.filter_cons]
    show List.map id (if p n = true then U.int n :: List.filter (fun y => p (intV y)) (List.map U.int ns) else List.filter (fun y => p (intV y)) (List.map U.int ns)) = _
    cases p n with
    | false => exact ih
    | true => rw [if_pos rfl, if_pos rfl, List.map_cons, List.map_cons, ih]; rfl
theorem filt_ne (w : Int) (ns : List Int) : ((ns.map U.int).filter fun y => decide (intV y ≠ w)).map id = (ns.filter fun x => decide (x ≠ w)).map U.int := filt_int (fun x => decide (x ≠ w)) ns
theorem filt_bad (hs : List Int) (up : Int) (ns : List Int) : ((ns.map U.int).filter fun y => decide (binI hs up (intV y) ≠ 4096)).map id = (ns.filter fun r => decide (binI hs up r ≠ 4096)).map U.int := filt_int (fun r => decide (binI hs up r ≠ 4096)) ns
theorem dOf_nil {G : UH} {c : Addr} (e : G c = some (.lst [])) : dOf G (.ref c) = some (.list (([] : List Int).map PyData.int)) := dOf_lst (ks := []) e
theorem const_len {w up down : Int} {hs : List Int} (u1 : 1 ≤ up) (u2 : up ≤ 64) (d1 : 1 ≤ down) (d2 : down ≤ 64) (l1 : 1 ≤ hs.length) (l2 : hs.length ≤ 64) : (constL w hs up down).length ≤ 200000 := by
  obtain ⟨s1, s2⟩ := sz_bd (hs := hs) u1 u2 d1 d2 l1 l2
  have tl := td_len (w := w) u1 u2 d1 d2 l1 l2
  have m1 : szI hs up down * up ≤ 1000 * 64 := Int.mul_le_mul s2 u2 (by omega) (by omega)
  have m0 : 0 ≤ szI hs up down * up := Int.mul_nonneg (by omega) (by omega)
  have := Int.ediv_le_self down (show 0 ≤ szI hs up down * up + down - 1 by omega)
  unfold constL
  rw [List.length_drop]
  omega
theorem w__law_steady (us : List U) (G : UH) (Q : UK) (E : UXn → UH → Prop) (h : sp__law_steady us G Q E) : trSs (TB cl__law_steady) (GM cl__law_steady) b__law_steady (UD Q E) (startU n__law_steady us) G := by
  obtain ⟨p, g, rfl, hP, k⟩ := h
  have lg := line_ge
  simp only [trSs, trS, trE, trT, trX, pl, trA, trO, trC, trI, uBin_s, uUn_s, uVar_s, uC_s, getS, setS, uOp, uAdd, uSub, uMul, uDiv, uMod, uPow, uNeg, uCmp, uEqF, uLt, uLe, uGt, uGe, uIsF, isNonU, uTru, Blt.fn, uLen, uAbs, uMax2, uMin2, uInt, uIx, startU, gam_fn, gam_gl, tab_xcs, tab_sub, UD_nx, UD_rt, UD_bk, UD_ct, UD_ex, spAt, glAt, gls, seqOf, List.map_cons, List.map_nil, List.cons_append, List.nil_append, List.length_cons, List.length_nil, List.replicate, Nat.reduceAdd, Nat.reduceSub, Nat.zero_add, reduceIte, Bool.false_eq_true, Bool.true_eq_false, Bool.false_bne, Bool.true_bne, Bool.not_true, Bool.not_false, Bool.not_not, List.reverse_cons, List.reverse_nil, Option.map_some, Option.map_none, up_same, uTuple, uList, uSet, atI_zero, atI_one, ixN_20, ixN_zero, List.set_cons_zero, uPow, b__law_steady, n__law_steady, trG, cl__law_steady]
  refine ⟨p, g, rfl, hP, fun up down G1 u1 u2 d1 d2 hP1 _ => ?_⟩
  obtain ⟨g1, g2⟩ := gcd_bd (b := down) u1 u2
  have gu : gcdI up down ≤ up := by
    obtain ⟨_, e, _⟩ := gcd_facts (up := up) (down := down) u1 d1
    generalize gcdI up down = a at *
    have : a * 1 ≤ a * (up / a) := Int.mul_le_mul_of_nonneg_left (by
      rcases Int.lt_or_le (up / a) 1 with z | z
      · have : a * (up / a) ≤ a * 0 := Int.mul_le_mul_of_nonneg_left (by omega) (by omega)
        omega
      · exact z) (by omega)
    omega
  simp only [trSs, trS, trE, trT, trX, pl, trA, trO, trC, trI, uBin_s, uUn_s, uVar_s, uC_s, getS, setS, uOp, uAdd, uSub, uMul, uDiv, uMod, uPow, uNeg, uCmp, uEqF, uLt, uLe, uGt, uGe, uIsF, isNonU, uTru, Blt.fn, uLen, uAbs, uMax2, uMin2, uInt, uIx, startU, gam_fn, gam_gl, tab_xcs, tab_sub, UD_nx, UD_rt, UD_bk, UD_ct, UD_ex, spAt, glAt, gls, seqOf, List.map_cons, List.map_nil, List.cons_append, List.nil_append, List.length_cons, List.length_nil, List.replicate, Nat.reduceAdd, Nat.reduceSub, Nat.zero_add, reduceIte, Bool.false_eq_true, Bool.true_eq_false, Bool.false_bne, Bool.true_bne, Bool.not_true, Bool.not_false, Bool.not_not, List.reverse_cons, List.reverse_nil, Option.map_some, Option.map_none, up_same, uTuple, uList, uSet, atI_zero, atI_one, ixN_20, ixN_zero, List.set_cons_zero, uPow, t12__law_steady, trG, cl__law_steady]
  refine ⟨up, down, rfl, u1, u2, d1, ?_⟩
  simp only [trSs, trS, trE, trT, trX, pl, trA, trO, trC, trI, uBin_s, uUn_s, uVar_s, uC_s, getS, setS, uOp, uAdd, uSub, uMul, uDiv, uMod, uPow, uNeg, uCmp, uEqF, uLt, uLe, uGt, uGe, uIsF, isNonU, uTru, Blt.fn, uLen, uAbs, uMax2, uMin2, uInt, uIx, startU, gam_fn, gam_gl, tab_xcs, tab_sub, UD_nx, UD_rt, UD_bk, UD_ct, UD_ex, spAt, glAt, gls, seqOf, List.map_cons, List.map_nil, List.cons_append, List.nil_append, List.length_cons, List.length_nil, List.replicate, Nat.reduceAdd, Nat.reduceSub, Nat.zero_add, reduceIte, Bool.false_eq_true, Bool.true_eq_false, Bool.false_bne, Bool.true_bne, Bool.not_true, Bool.not_false, Bool.not_not, List.reverse_cons, List.reverse_nil, Option.map_some, Option.map_none, up_same, uTuple, uList, uSet, atI_zero, atI_one, ixN_20, ixN_zero, List.set_cons_zero, uPow, t11__law_steady, trG, cl__law_steady]
  refine ⟨p, g, up, _, rfl, hP1, u1, u2, g1, gu, fun hs G2 l1 l2 hbd hP2 => ?_⟩
  simp only [trSs, trS, trE, trT, trX, pl, trA, trO, trC, trI, uBin_s, uUn_s, uVar_s, uC_s, getS, setS, uOp, uAdd, uSub, uMul, uDiv, uMod, uPow, uNeg, uCmp, uEqF, uLt, uLe, uGt, uGe, uIsF, isNonU, uTru, Blt.fn, uLen, uAbs, uMax2, uMin2, uInt, uIx, startU, gam_fn, gam_gl, tab_xcs, tab_sub, UD_nx, UD_rt, UD_bk, UD_ct, UD_ex, spAt, glAt, gls, seqOf, List.map_cons, List.map_nil, List.cons_append, List.nil_append, List.length_cons, List.length_nil, List.replicate, Nat.reduceAdd, Nat.reduceSub, Nat.zero_add, reduceIte, Bool.false_eq_true, Bool.true_eq_false, Bool.false_bne, Bool.true_bne, Bool.not_true, Bool.not_false, Bool.not_not, List.reverse_cons, List.reverse_nil, Option.map_some, Option.map_none, up_same, uTuple, uList, uSet, atI_zero, atI_one, ixN_20, ixN_zero, List.set_cons_zero, uPow, t10__law_steady, trG, cl__law_steady]
  refine ⟨up, hs, rfl, u1, u2, l2, fun b G3 hb0 hb l3 => ?_⟩
  have hP3 := hP2.le l3
  have hbp := hP2.ne hb0
  simp only [trSs, trS, trE, trT, trX, pl, trA, trO, trC, trI, uBin_s, uUn_s, uVar_s, uC_s, getS, setS, uOp, uAdd, uSub, uMul, uDiv, uMod, uPow, uNeg, uCmp, uEqF, uLt, uLe, uGt, uGe, uIsF, isNonU, uTru, Blt.fn, uLen, uAbs, uMax2, uMin2, uInt, uIx, startU, gam_fn, gam_gl, tab_xcs, tab_sub, UD_nx, UD_rt, UD_bk, UD_ct, UD_ex, spAt, glAt, gls, seqOf, List.map_cons, List.map_nil, List.cons_append, List.nil_append, List.length_cons, List.length_nil, List.replicate, Nat.reduceAdd, Nat.reduceSub, Nat.zero_add, reduceIte, Bool.false_eq_true, Bool.true_eq_false, Bool.false_bne, Bool.true_bne, Bool.not_true, Bool.not_false, Bool.not_not, List.reverse_cons, List.reverse_nil, Option.map_some, Option.map_none, up_same, uTuple, uList, uSet, atI_zero, atI_one, ixN_20, ixN_zero, List.set_cons_zero, uPow, t9__law_steady, trG]
  refine ⟨by unfold small62; omega, by unfold small62; omega, by omega, by omega, ?_⟩
  rw [rangeU_map]
  intro bd hbd0
  have nb : b ≠ bd := fun z => by subst z; rw [hbd0] at hb; cases hb
  have hbdp := hP3.ne hbd0
  have hr2 := rlen_le (i := 0) (j := up) (c := gcdI up down) (by omega)
  refine lcU_pure (c := fun y => decide (binI hs up (intV y) ≠ 4096)) (f := id) (fun _ => depsNil) _ [] (by rw [List.length_map, rangeI_len, List.length_nil]; omega) ?_ ?_
  · intro y hy acc K1 K0 k1 k0
    obtain ⟨z, hz, rfl⟩ := List.mem_map.mp hy
    obtain ⟨i, hi, ez⟩ := rangeI_mem hz
    have hlt := rlen_lt (by omega) hi
    have hnn : 0 ≤ (i : Int) * gcdI up down := Int.mul_nonneg (by omega) (by omega)
    have hb' : UL.up G3 bd (.lst acc) b = some (.lst ((binsL hs up).map U.int)) := by rw [up_ne nb]; exact hb
    simp only [trSs, trS, trE, trT, trX, pl, trA, trO, trC, trI, uBin_s, uUn_s, uVar_s, uC_s, getS, setS, uOp, uAdd, uSub, uMul, uDiv, uMod, uPow, uNeg, uCmp, uEqF, uLt, uLe, uGt, uGe, uIsF, isNonU, uTru, Blt.fn, uLen, uAbs, uMax2, uMin2, uInt, uIx, startU, gam_fn, gam_gl, tab_xcs, tab_sub, UD_nx, UD_rt, UD_bk, UD_ct, UD_ex, spAt, glAt, gls, seqOf, List.map_cons, List.map_nil, List.cons_append, List.nil_append, List.length_cons, List.length_nil, List.replicate, Nat.reduceAdd, Nat.reduceSub, Nat.zero_add, reduceIte, Bool.false_eq_true, Bool.true_eq_false, Bool.false_bne, Bool.true_bne, Bool.not_true, Bool.not_false, Bool.not_not, List.reverse_cons, List.reverse_nil, Option.map_some, Option.map_none, up_same, uTuple, uList, uSet, atI_zero, atI_one, ixN_20, ixN_zero, List.set_cons_zero, uPow, slotsG, slotsGs, wipeU, trG, hb', atI_int (show 0 ≤ z by omega) (show z < ((binsL hs up).length : Int) by rw [show (binsL hs up).length = up.toNat by simp [binsL]]; omega), bins_get (show 0 ≤ z by omega) (show z < up by omega)]
    by_cases c : binI hs up z = 4096
    · simp only [trSs, trS, trE, trT, trX, pl, trA, trO, trC, trI, uBin_s, uUn_s, uVar_s, uC_s, getS, setS, uOp, uAdd, uSub, uMul, uDiv, uMod, uPow, uNeg, uCmp, uEqF, uLt, uLe, uGt, uGe, uIsF, isNonU, uTru, Blt.fn, uLen, uAbs, uMax2, uMin2, uInt, uIx, startU, gam_fn, gam_gl, tab_xcs, tab_sub, UD_nx, UD_rt, UD_bk, UD_ct, UD_ex, spAt, glAt, gls, seqOf, List.map_cons, List.map_nil, List.cons_append, List.nil_append, List.length_cons, List.length_nil, List.replicate, Nat.reduceAdd, Nat.reduceSub, Nat.zero_add, reduceIte, Bool.false_eq_true, Bool.true_eq_false, Bool.false_bne, Bool.true_bne, Bool.not_true, Bool.not_false, Bool.not_not, List.reverse_cons, List.reverse_nil, Option.map_some, Option.map_none, up_same, uTuple, uList, uSet, atI_zero, atI_one, ixN_20, ixN_zero, List.set_cons_zero, uPow, c, decide_true]
      exact k0 (decide_eq_false (by simpa [intV] using c))
    · simp only [trSs, trS, trE, trT, trX, pl, trA, trO, trC, trI, uBin_s, uUn_s, uVar_s, uC_s, getS, setS, uOp, uAdd, uSub, uMul, uDiv, uMod, uPow, uNeg, uCmp, uEqF, uLt, uLe, uGt, uGe, uIsF, isNonU, uTru, Blt.fn, uLen, uAbs, uMax2, uMin2, uInt, uIx, startU, gam_fn, gam_gl, tab_xcs, tab_sub, UD_nx, UD_rt, UD_bk, UD_ct, UD_ex, spAt, glAt, gls, seqOf, List.map_cons, List.map_nil, List.cons_append, List.nil_append, List.length_cons, List.length_nil, List.replicate, Nat.reduceAdd, Nat.reduceSub, Nat.zero_add, reduceIte, Bool.false_eq_true, Bool.true_eq_false, Bool.false_bne, Bool.true_bne, Bool.not_true, Bool.not_false, Bool.not_not, List.reverse_cons, List.reverse_nil, Option.map_some, Option.map_none, up_same, uTuple, uList, uSet, atI_zero, atI_one, ixN_20, ixN_zero, List.set_cons_zero, uPow, c, decide_false]
      exact k1 (decide_eq_true (by simpa [intV] using c))
  rw [List.nil_append, filt_bad, show (rangeI 0 (gcdI up down) (rlen 0 up (gcdI up down))).filter (fun r => decide (binI hs up r ≠ 4096)) = badI hs up down from rfl]
  have hP4 := hP3.upf hbd0 (o := .lst ((badI hs up down).map U.int))
  have hb4 : UL.up G3 bd (.lst ((badI hs up down).map U.int)) b = some (.lst ((binsL hs up).map U.int)) := by rw [up_ne nb]; exact hb
  have hbd4 : UL.up G3 bd (.lst ((badI hs up down).map U.int)) bd = some (.lst ((badI hs up down).map U.int)) := up_same
  generalize UL.up G3 bd (.lst ((badI hs up down).map U.int)) = G4 at hP4 hb4 hbd4 ⊢
  simp only [trSs, trS, trE, trT, trX, pl, trA, trO, trC, trI, uBin_s, uUn_s, uVar_s, uC_s, getS, setS, uOp, uAdd, uSub, uMul, uDiv, uMod, uPow, uNeg, uCmp, uEqF, uLt, uLe, uGt, uGe, uIsF, isNonU, uTru, Blt.fn, uLen, uAbs, uMax2, uMin2, uInt, uIx, startU, gam_fn, gam_gl, tab_xcs, tab_sub, UD_nx, UD_rt, UD_bk, UD_ct, UD_ex, spAt, glAt, gls, seqOf, List.map_cons, List.map_nil, List.cons_append, List.nil_append, List.length_cons, List.length_nil, List.replicate, Nat.reduceAdd, Nat.reduceSub, Nat.zero_add, reduceIte, Bool.false_eq_true, Bool.true_eq_false, Bool.false_bne, Bool.true_bne, Bool.not_true, Bool.not_false, Bool.not_not, List.reverse_cons, List.reverse_nil, Option.map_some, Option.map_none, up_same, uTuple, uList, uSet, atI_zero, atI_one, ixN_20, ixN_zero, List.set_cons_zero, uPow, t8__law_steady, trG, cl__law_steady]
  refine ⟨_, _, _, rfl, rfl, rfl, ok_ints hs, ?_⟩
  rw [rates_ok u1 u2 d1 d2 l1 l2 hbd]
  simp only [tupL, map_intV, intV]
  have st6 : ∀ told : U, trSs (TB cl__law_steady) (GM cl__law_steady) t6__law_steady (UD Q E) [some (.ref p), some (.tup [.int up, .int down]), some (.int (gcdI up down)), some (.tup (hs.map U.int)), some (.ref b), some (.ref bd), none, some told, none, none, none, none] G4 := by
    intro told
    simp only [trSs, trS, trE, trT, trX, pl, trA, trO, trC, trI, uBin_s, uUn_s, uVar_s, uC_s, getS, setS, uOp, uAdd, uSub, uMul, uDiv, uMod, uPow, uNeg, uCmp, uEqF, uLt, uLe, uGt, uGe, uIsF, isNonU, uTru, Blt.fn, uLen, uAbs, uMax2, uMin2, uInt, uIx, startU, gam_fn, gam_gl, tab_xcs, tab_sub, UD_nx, UD_rt, UD_bk, UD_ct, UD_ex, spAt, glAt, gls, seqOf, List.map_cons, List.map_nil, List.cons_append, List.nil_append, List.length_cons, List.length_nil, List.replicate, Nat.reduceAdd, Nat.reduceSub, Nat.zero_add, reduceIte, Bool.false_eq_true, Bool.true_eq_false, Bool.false_bne, Bool.true_bne, Bool.not_true, Bool.not_false, Bool.not_not, List.reverse_cons, List.reverse_nil, Option.map_some, Option.map_none, up_same, uTuple, uList, uSet, atI_zero, atI_one, ixN_20, ixN_zero, List.set_cons_zero, uPow, t6__law_steady, trG, cl__law_steady]
    refine ⟨p, g, rfl, hP4, fun w G5 w1 w2 hP5 f5 => ?_⟩
    have hb5 := f5 b _ hbp.1.symm hbp.2.symm hb4
    have hbd5 := f5 bd _ hbdp.1.symm hbdp.2.symm hbd4
    simp only [trSs, trS, trE, trT, trX, pl, trA, trO, trC, trI, uBin_s, uUn_s, uVar_s, uC_s, getS, setS, uOp, uAdd, uSub, uMul, uDiv, uMod, uPow, uNeg, uCmp, uEqF, uLt, uLe, uGt, uGe, uIsF, isNonU, uTru, Blt.fn, uLen, uAbs, uMax2, uMin2, uInt, uIx, startU, gam_fn, gam_gl, tab_xcs, tab_sub, UD_nx, UD_rt, UD_bk, UD_ct, UD_ex, spAt, glAt, gls, seqOf, List.map_cons, List.map_nil, List.cons_append, List.nil_append, List.length_cons, List.length_nil, List.replicate, Nat.reduceAdd, Nat.reduceSub, Nat.zero_add, reduceIte, Bool.false_eq_true, Bool.true_eq_false, Bool.false_bne, Bool.true_bne, Bool.not_true, Bool.not_false, Bool.not_not, List.reverse_cons, List.reverse_nil, Option.map_some, Option.map_none, up_same, uTuple, uList, uSet, atI_zero, atI_one, ixN_20, ixN_zero, List.set_cons_zero, uPow, t5__law_steady, trG, cl__law_steady]
    refine ⟨w, up, down, hs, b, rfl, hb5, w1, w2, u1, u2, d1, d2, l1, l2, hbd, fun a1 c1 G6 ha1 hc1 l6 => ?_⟩
    simp only [trSs, trS, trE, trT, trX, pl, trA, trO, trC, trI, uBin_s, uUn_s, uVar_s, uC_s, getS, setS, uOp, uAdd, uSub, uMul, uDiv, uMod, uPow, uNeg, uCmp, uEqF, uLt, uLe, uGt, uGe, uIsF, isNonU, uTru, Blt.fn, uLen, uAbs, uMax2, uMin2, uInt, uIx, startU, gam_fn, gam_gl, tab_xcs, tab_sub, UD_nx, UD_rt, UD_bk, UD_ct, UD_ex, spAt, glAt, gls, seqOf, List.map_cons, List.map_nil, List.cons_append, List.nil_append, List.length_cons, List.length_nil, List.replicate, Nat.reduceAdd, Nat.reduceSub, Nat.zero_add, reduceIte, Bool.false_eq_true, Bool.true_eq_false, Bool.false_bne, Bool.true_bne, Bool.not_true, Bool.not_false, Bool.not_not, List.reverse_cons, List.reverse_nil, Option.map_some, Option.map_none, up_same, uTuple, uList, uSet, atI_zero, atI_one, ixN_20, ixN_zero, List.set_cons_zero, uPow, t4__law_steady, trG, cl__law_steady]
    refine ⟨4096, up, down, hs, b, rfl, l6 _ _ hb5, by decide, by decide, u1, u2, d1, d2, l1, l2, hbd, fun a2 c2 G7 ha2 hc2 l7 => ?_⟩
    have ha1' := l7 _ _ ha1
    have hc1' := l7 _ _ hc1
    have hbd7 := l7 _ _ (l6 _ _ hbd5)
    have hP7 := (hP5.le l6).le l7
    have hne : ¬ ((constL 4096 hs up down).length : Int) = 0 := by
      have := const_ne (w := 4096) u1 u2 d1 d2 l1 l2
      cases e : constL 4096 hs up down with
      | nil => exact absurd e this
      | cons x xs => simp; omega
    have cl1 := const_len (w := w) u1 u2 d1 d2 l1 l2
    have cl2 := const_len (w := 4096) u1 u2 d1 d2 l1 l2
    simp only [trSs, trS, trE, trT, trX, pl, trA, trO, trC, trI, uBin_s, uUn_s, uVar_s, uC_s, getS, setS, uOp, uAdd, uSub, uMul, uDiv, uMod, uPow, uNeg, uCmp, uEqF, uLt, uLe, uGt, uGe, uIsF, isNonU, uTru, Blt.fn, uLen, uAbs, uMax2, uMin2, uInt, uIx, startU, gam_fn, gam_gl, tab_xcs, tab_sub, UD_nx, UD_rt, UD_bk, UD_ct, UD_ex, spAt, glAt, gls, seqOf, List.map_cons, List.map_nil, List.cons_append, List.nil_append, List.length_cons, List.length_nil, List.replicate, Nat.reduceAdd, Nat.reduceSub, Nat.zero_add, reduceIte, Bool.false_eq_true, Bool.true_eq_false, Bool.false_bne, Bool.true_bne, Bool.not_true, Bool.not_false, Bool.not_not, List.reverse_cons, List.reverse_nil, Option.map_some, Option.map_none, up_same, uTuple, uList, uSet, atI_zero, atI_one, ixN_20, ixN_zero, List.set_cons_zero, uPow, t3__law_steady, ha1', ha2, hc2, List.length_map, hne, decide_false]
    by_cases hbad : badI hs up down = []
    · rw [hbad] at hbd7
      simp only [trSs, trS, trE, trT, trX, pl, trA, trO, trC, trI, uBin_s, uUn_s, uVar_s, uC_s, getS, setS, uOp, uAdd, uSub, uMul, uDiv, uMod, uPow, uNeg, uCmp, uEqF, uLt, uLe, uGt, uGe, uIsF, isNonU, uTru, Blt.fn, uLen, uAbs, uMax2, uMin2, uInt, uIx, startU, gam_fn, gam_gl, tab_xcs, tab_sub, UD_nx, UD_rt, UD_bk, UD_ct, UD_ex, spAt, glAt, gls, seqOf, List.map_cons, List.map_nil, List.cons_append, List.nil_append, List.length_cons, List.length_nil, List.replicate, Nat.reduceAdd, Nat.reduceSub, Nat.zero_add, reduceIte, Bool.false_eq_true, Bool.true_eq_false, Bool.false_bne, Bool.true_bne, Bool.not_true, Bool.not_false, Bool.not_not, List.reverse_cons, List.reverse_nil, Option.map_some, Option.map_none, up_same, uTuple, uList, uSet, atI_zero, atI_one, ixN_20, ixN_zero, List.set_cons_zero, uPow, t2__law_steady, hbd7, decide_true, ha1', hc1']
      intro q1 hq1
      have nq : c1 ≠ q1 := fun z => by subst z; rw [hq1] at hc1'; cases hc1'
      refine lcU_pure (c := fun y => decide (intV y ≠ w)) (f := id) (ds := [(c1, (constL w hs up down).map U.int)]) (fun acc => (show depsOk _ [(c1, (constL w hs up down).map U.int)] from ⟨by rw [up_ne nq]; exact hc1', trivial⟩)) _ [] (by rw [List.length_map, List.length_nil]; omega) ?_ ?_
      · intro y hy acc K1 K0 k1 k0
        obtain ⟨z, hz, rfl⟩ := List.mem_map.mp hy
        simp only [trSs, trS, trE, trT, trX, pl, trA, trO, trC, trI, uBin_s, uUn_s, uVar_s, uC_s, getS, setS, uOp, uAdd, uSub, uMul, uDiv, uMod, uPow, uNeg, uCmp, uEqF, uLt, uLe, uGt, uGe, uIsF, isNonU, uTru, Blt.fn, uLen, uAbs, uMax2, uMin2, uInt, uIx, startU, gam_fn, gam_gl, tab_xcs, tab_sub, UD_nx, UD_rt, UD_bk, UD_ct, UD_ex, spAt, glAt, gls, seqOf, List.map_cons, List.map_nil, List.cons_append, List.nil_append, List.length_cons, List.length_nil, List.replicate, Nat.reduceAdd, Nat.reduceSub, Nat.zero_add, reduceIte, Bool.false_eq_true, Bool.true_eq_false, Bool.false_bne, Bool.true_bne, Bool.not_true, Bool.not_false, Bool.not_not, List.reverse_cons, List.reverse_nil, Option.map_some, Option.map_none, up_same, uTuple, uList, uSet, atI_zero, atI_one, ixN_20, ixN_zero, List.set_cons_zero, uPow, slotsG, slotsGs, wipeU, trG]
        by_cases c : z = w
        · simp only [trSs, trS, trE, trT, trX, pl, trA, trO, trC, trI, uBin_s, uUn_s, uVar_s, uC_s, getS, setS, uOp, uAdd, uSub, uMul, uDiv, uMod, uPow, uNeg, uCmp, uEqF, uLt, uLe, uGt, uGe, uIsF, isNonU, uTru, Blt.fn, uLen, uAbs, uMax2, uMin2, uInt, uIx, startU, gam_fn, gam_gl, tab_xcs, tab_sub, UD_nx, UD_rt, UD_bk, UD_ct, UD_ex, spAt, glAt, gls, seqOf, List.map_cons, List.map_nil, List.cons_append, List.nil_append, List.length_cons, List.length_nil, List.replicate, Nat.reduceAdd, Nat.reduceSub, Nat.zero_add, reduceIte, Bool.false_eq_true, Bool.true_eq_false, Bool.false_bne, Bool.true_bne, Bool.not_true, Bool.not_false, Bool.not_not, List.reverse_cons, List.reverse_nil, Option.map_some, Option.map_none, up_same, uTuple, uList, uSet, atI_zero, atI_one, ixN_20, ixN_zero, List.set_cons_zero, uPow, c, decide_true]
          exact k0 (decide_eq_false fun e => e c)
        · simp only [trSs, trS, trE, trT, trX, pl, trA, trO, trC, trI, uBin_s, uUn_s, uVar_s, uC_s, getS, setS, uOp, uAdd, uSub, uMul, uDiv, uMod, uPow, uNeg, uCmp, uEqF, uLt, uLe, uGt, uGe, uIsF, isNonU, uTru, Blt.fn, uLen, uAbs, uMax2, uMin2, uInt, uIx, startU, gam_fn, gam_gl, tab_xcs, tab_sub, UD_nx, UD_rt, UD_bk, UD_ct, UD_ex, spAt, glAt, gls, seqOf, List.map_cons, List.map_nil, List.cons_append, List.nil_append, List.length_cons, List.length_nil, List.replicate, Nat.reduceAdd, Nat.reduceSub, Nat.zero_add, reduceIte, Bool.false_eq_true, Bool.true_eq_false, Bool.false_bne, Bool.true_bne, Bool.not_true, Bool.not_false, Bool.not_not, List.reverse_cons, List.reverse_nil, Option.map_some, Option.map_none, up_same, uTuple, uList, uSet, atI_zero, atI_one, ixN_20, ixN_zero, List.set_cons_zero, uPow, c, decide_false]
          exact k1 (decide_eq_true c)
      · rw [List.nil_append, filt_ne]
        have e0 : (constL w hs up down).filter (fun x => decide (x ≠ w)) = [] := by
          rw [List.filter_eq_nil_iff]
          intro x hx
          simp [const_good u1 u2 d1 d2 l1 l2 w1 w2 hbad x hx]
        rw [e0]
        refine ⟨by omega, fun q2 hq2 => ?_⟩
        have nq2 : q1 ≠ q2 := fun z => by subst z; rw [up_same] at hq2; cases hq2
        rw [dOf_lst (c := q1) (ks := []) (by rw [up_ne nq2]; exact up_same), dOf_nil (c := q2) up_same]
        exact ⟨shaped_lst [], shaped_lst [], fin.of (by rw [eqv_lst]; exact k _ ((hP7.upf hq1).upf hq2))⟩
    · have hnl : ¬ ((badI hs up down).length : Int) = 0 := by
        cases e : badI hs up down with
        | nil => exact absurd e hbad
        | cons x xs => simp; omega
      simp only [trSs, trS, trE, trT, trX, pl, trA, trO, trC, trI, uBin_s, uUn_s, uVar_s, uC_s, getS, setS, uOp, uAdd, uSub, uMul, uDiv, uMod, uPow, uNeg, uCmp, uEqF, uLt, uLe, uGt, uGe, uIsF, isNonU, uTru, Blt.fn, uLen, uAbs, uMax2, uMin2, uInt, uIx, startU, gam_fn, gam_gl, tab_xcs, tab_sub, UD_nx, UD_rt, UD_bk, UD_ct, UD_ex, spAt, glAt, gls, seqOf, List.map_cons, List.map_nil, List.cons_append, List.nil_append, List.length_cons, List.length_nil, List.replicate, Nat.reduceAdd, Nat.reduceSub, Nat.zero_add, reduceIte, Bool.false_eq_true, Bool.true_eq_false, Bool.false_bne, Bool.true_bne, Bool.not_true, Bool.not_false, Bool.not_not, List.reverse_cons, List.reverse_nil, Option.map_some, Option.map_none, up_same, uTuple, uList, uSet, atI_zero, atI_one, ixN_20, ixN_zero, List.set_cons_zero, uPow, t2__law_steady, t1__law_steady, hbd7, List.length_map, hnl, decide_false, ha2, hc2]
      intro q1 hq1
      have nq : c2 ≠ q1 := fun z => by subst z; rw [hq1] at hc2; cases hc2
      refine lcU_pure (c := fun y => decide (intV y ≠ 4096)) (f := id) (ds := [(c2, (constL 4096 hs up down).map U.int)]) (fun acc => (show depsOk _ [(c2, (constL 4096 hs up down).map U.int)] from ⟨by rw [up_ne nq]; exact hc2, trivial⟩)) _ [] (by rw [List.length_map, List.length_nil]; omega) ?_ ?_
      · intro y hy acc K1 K0 k1 k0
        obtain ⟨z, hz, rfl⟩ := List.mem_map.mp hy
        simp only [trSs, trS, trE, trT, trX, pl, trA, trO, trC, trI, uBin_s, uUn_s, uVar_s, uC_s, getS, setS, uOp, uAdd, uSub, uMul, uDiv, uMod, uPow, uNeg, uCmp, uEqF, uLt, uLe, uGt, uGe, uIsF, isNonU, uTru, Blt.fn, uLen, uAbs, uMax2, uMin2, uInt, uIx, startU, gam_fn, gam_gl, tab_xcs, tab_sub, UD_nx, UD_rt, UD_bk, UD_ct, UD_ex, spAt, glAt, gls, seqOf, List.map_cons, List.map_nil, List.cons_append, List.nil_append, List.length_cons, List.length_nil, List.replicate, Nat.reduceAdd, Nat.reduceSub, Nat.zero_add, reduceIte, Bool.false_eq_true, Bool.true_eq_false, Bool.false_bne, Bool.true_bne, Bool.not_true, Bool.not_false, Bool.not_not, List.reverse_cons, List.reverse_nil, Option.map_some, Option.map_none, up_same, uTuple, uList, uSet, atI_zero, atI_one, ixN_20, ixN_zero, List.set_cons_zero, uPow, slotsG, slotsGs, wipeU, trG]
        by_cases c : z = 4096
        · simp only [trSs, trS, trE, trT, trX, pl, trA, trO, trC, trI, uBin_s, uUn_s, uVar_s, uC_s, getS, setS, uOp, uAdd, uSub, uMul, uDiv, uMod, uPow, uNeg, uCmp, uEqF, uLt, uLe, uGt, uGe, uIsF, isNonU, uTru, Blt.fn, uLen, uAbs, uMax2, uMin2, uInt, uIx, startU, gam_fn, gam_gl, tab_xcs, tab_sub, UD_nx, UD_rt, UD_bk, UD_ct, UD_ex, spAt, glAt, gls, seqOf, List.map_cons, List.map_nil, List.cons_append, List.nil_append, List.length_cons, List.length_nil, List.replicate, Nat.reduceAdd, Nat.reduceSub, Nat.zero_add, reduceIte, Bool.false_eq_true, Bool.true_eq_false, Bool.false_bne, Bool.true_bne, Bool.not_true, Bool.not_false, Bool.not_not, List.reverse_cons, List.reverse_nil, Option.map_some, Option.map_none, up_same, uTuple, uList, uSet, atI_zero, atI_one, ixN_20, ixN_zero, List.set_cons_zero, uPow, c, decide_true]
          exact k0 (decide_eq_false fun e => e c)
        · simp only [trSs, trS, trE, trT, trX, pl, trA, trO, trC, trI, uBin_s, uUn_s, uVar_s, uC_s, getS, setS, uOp, uAdd, uSub, uMul, uDiv, uMod, uPow, uNeg, uCmp, uEqF, uLt, uLe, uGt, uGe, uIsF, isNonU, uTru, Blt.fn, uLen, uAbs, uMax2, uMin2, uInt, uIx, startU, gam_fn, gam_gl, tab_xcs, tab_sub, UD_nx, UD_rt, UD_bk, UD_ct, UD_ex, spAt, glAt, gls, seqOf, List.map_cons, List.map_nil, List.cons_append, List.nil_append, List.length_cons, List.length_nil, List.replicate, Nat.reduceAdd, Nat.reduceSub, Nat.zero_add, reduceIte, Bool.false_eq_true, Bool.true_eq_false, Bool.false_bne, Bool.true_bne, Bool.not_true, Bool.not_false, Bool.not_not, List.reverse_cons, List.reverse_nil, Option.map_some, Option.map_none, up_same, uTuple, uList, uSet, atI_zero, atI_one, ixN_20, ixN_zero, List.set_cons_zero, uPow, c, decide_false]
          exact k1 (decide_eq_true c)
      · rw [List.nil_append, filt_ne]
        have e0 : (constL 4096 hs up down).filter (fun x => decide (x ≠ 4096)) ≠ [] := by
          obtain ⟨x, hx, hx2⟩ := const_bad u1 u2 d1 d2 l1 l2 hbad
          exact List.ne_nil_of_mem (List.mem_filter.mpr ⟨hx, decide_eq_true hx2⟩)
        generalize (constL 4096 hs up down).filter (fun x => decide (x ≠ 4096)) = ns at e0
        refine ⟨by omega, fun q2 hq2 => ?_⟩
        have nq2 : q1 ≠ q2 := fun z => by subst z; rw [up_same] at hq2; cases hq2
        rw [dOf_lst (c := q1) (ks := ns) (by rw [up_ne nq2]; exact up_same), dOf_nil (c := q2) up_same]
        refine ⟨shaped_lst _, shaped_lst [], fin.of ?_⟩
        rw [eqv_lst, decide_eq_false e0]
        exact k _ ((hP7.upf hq1).upf hq2)
  cases hbad : badI hs up down with
  | nil =>
    rw [hbad] at hbd4
    simp only [trSs, trS, trE, trT, trX, pl, trA, trO, trC, trI, uBin_s, uUn_s, uVar_s, uC_s, getS, setS, uOp, uAdd, uSub, uMul, uDiv, uMod, uPow, uNeg, uCmp, uEqF, uLt, uLe, uGt, uGe, uIsF, isNonU, uTru, Blt.fn, uLen, uAbs, uMax2, uMin2, uInt, uIx, startU, gam_fn, gam_gl, tab_xcs, tab_sub, UD_nx, UD_rt, UD_bk, UD_ct, UD_ex, spAt, glAt, gls, seqOf, List.map_cons, List.map_nil, List.cons_append, List.nil_append, List.length_cons, List.length_nil, List.replicate, Nat.reduceAdd, Nat.reduceSub, Nat.zero_add, reduceIte, Bool.false_eq_true, Bool.true_eq_false, Bool.false_bne, Bool.true_bne, Bool.not_true, Bool.not_false, Bool.not_not, List.reverse_cons, List.reverse_nil, Option.map_some, Option.map_none, up_same, uTuple, uList, uSet, atI_zero, atI_one, ixN_20, ixN_zero, List.set_cons_zero, uPow, t7__law_steady, steadyU, hbd4, decide_true]
    exact st6 _
  | cons r t =>
    rw [hbad] at hbd4
    simp only [trSs, trS, trE, trT, trX, pl, trA, trO, trC, trI, uBin_s, uUn_s, uVar_s, uC_s, getS, setS, uOp, uAdd, uSub, uMul, uDiv, uMod, uPow, uNeg, uCmp, uEqF, uLt, uLe, uGt, uGe, uIsF, isNonU, uTru, Blt.fn, uLen, uAbs, uMax2, uMin2, uInt, uIx, startU, gam_fn, gam_gl, tab_xcs, tab_sub, UD_nx, UD_rt, UD_bk, UD_ct, UD_ex, spAt, glAt, gls, seqOf, List.map_cons, List.map_nil, List.cons_append, List.nil_append, List.length_cons, List.length_nil, List.replicate, Nat.reduceAdd, Nat.reduceSub, Nat.zero_add, reduceIte, Bool.false_eq_true, Bool.true_eq_false, Bool.false_bne, Bool.true_bne, Bool.not_true, Bool.not_false, Bool.not_not, List.reverse_cons, List.reverse_nil, Option.map_some, Option.map_none, up_same, uTuple, uList, uSet, atI_zero, atI_one, ixN_20, ixN_zero, List.set_cons_zero, uPow, t7__law_steady, steadyU, hbd4]
    rw [if_neg (by simp only [decide_eq_true_eq]; omega)]
    refine isi_int rfl ?_
    simp only [trSs, trS, trE, trT, trX, pl, trA, trO, trC, trI, uBin_s, uUn_s, uVar_s, uC_s, getS, setS, uOp, uAdd, uSub, uMul, uDiv, uMod, uPow, uNeg, uCmp, uEqF, uLt, uLe, uGt, uGe, uIsF, isNonU, uTru, Blt.fn, uLen, uAbs, uMax2, uMin2, uInt, uIx, startU, gam_fn, gam_gl, tab_xcs, tab_sub, UD_nx, UD_rt, UD_bk, UD_ct, UD_ex, spAt, glAt, gls, seqOf, List.map_cons, List.map_nil, List.cons_append, List.nil_append, List.length_cons, List.length_nil, List.replicate, Nat.reduceAdd, Nat.reduceSub, Nat.zero_add, reduceIte, Bool.false_eq_true, Bool.true_eq_false, Bool.false_bne, Bool.true_bne, Bool.not_true, Bool.not_false, Bool.not_not, List.reverse_cons, List.reverse_nil, Option.map_some, Option.map_none, up_same, uTuple, uList, uSet, atI_zero, atI_one, ixN_20, ixN_zero, List.set_cons_zero, uPow, kI]
    refine isi_bool rfl ?_
    simp only [trSs, trS, trE, trT, trX, pl, trA, trO, trC, trI, uBin_s, uUn_s, uVar_s, uC_s, getS, setS, uOp, uAdd, uSub, uMul, uDiv, uMod, uPow, uNeg, uCmp, uEqF, uLt, uLe, uGt, uGe, uIsF, isNonU, uTru, Blt.fn, uLen, uAbs, uMax2, uMin2, uInt, uIx, startU, gam_fn, gam_gl, tab_xcs, tab_sub, UD_nx, UD_rt, UD_bk, UD_ct, UD_ex, spAt, glAt, gls, seqOf, List.map_cons, List.map_nil, List.cons_append, List.nil_append, List.length_cons, List.length_nil, List.replicate, Nat.reduceAdd, Nat.reduceSub, Nat.zero_add, reduceIte, Bool.false_eq_true, Bool.true_eq_false, Bool.false_bne, Bool.true_bne, Bool.not_true, Bool.not_false, Bool.not_not, List.reverse_cons, List.reverse_nil, Option.map_some, Option.map_none, up_same, uTuple, uList, uSet, atI_zero, atI_one, ixN_20, ixN_zero, List.set_cons_zero, uPow, kB, hbd4, decide_true]
    exact st6 _
end K71
set_option Elab.async false
set_option linter.all false
set_option autoImplicit false
set_option maxRecDepth 100000
set_option maxHeartbeats 4000000
namespace K71
open PySem PySem.Spec L2 UL
/-! ### _law_refused -/
def Rfd (w : Int) (x y z : U) (s : Str) : Prop := (w = 0 ∧ lookW x y = some s) ∨ (w = 1 ∧ lookW x y = some s) ∨ (w = 2 ∧ ratesW x y z = some s)
def sp__law_refused : USp := fun us G Q _ => ∃ w x y z s, us = [.int w, x, y, z] ∧ okS G x ∧ okS G y ∧ okS G z ∧ (tupL x).length ≤ 100000 ∧ Rfd w x y z s ∧ ∀ r G', G' r = some (.lst [.str s, .int (-1)]) → Le G G' → Q (.ref r) G'
def cl__law_refused : List (Str × USp) := [("spread", sp_spread), ("kept_each", sp_kept_each), ("steady", sp_steady)]
theorem w__law_refused (us : List U) (G : UH) (Q : UK) (E : UXn → UH → Prop) (h : sp__law_refused us G Q E) : trSs (TB cl__law_refused) (GM cl__law_refused) b__law_refused (UD Q E) (startU n__law_refused us) G := by
  obtain ⟨w, x, y, z, s, rfl, hx, hy, hz, hl, hr, q⟩ := h
  have lg := line_ge
  have fin1 : 2 ≤ sizeLine ∧ ∀ p, G p = none → fin (Q (.ref p)) (UL.up G p (.lst [.str s, .int (-1)])) := ⟨by omega, fun p hp => fin.of (q p _ up_same (.new hp))⟩
  simp only [trSs, trS, trE, trT, trX, pl, trA, trO, trC, trI, uBin_s, uUn_s, uVar_s, uC_s, getS, setS, uOp, uAdd, uSub, uMul, uDiv, uMod, uPow, uNeg, uCmp, uEqF, uLt, uLe, uGt, uGe, uIsF, isNonU, uTru, Blt.fn, uLen, uAbs, uMax2, uMin2, uInt, uIx, startU, gam_fn, gam_gl, tab_xcs, tab_sub, UD_nx, UD_rt, UD_bk, UD_ct, UD_ex, spAt, glAt, gls, seqOf, List.map_cons, List.map_nil, List.cons_append, List.nil_append, List.length_cons, List.length_nil, List.replicate, Nat.reduceAdd, Nat.reduceSub, Nat.zero_add, reduceIte, Bool.false_eq_true, Bool.true_eq_false, Bool.false_bne, Bool.true_bne, Bool.not_true, Bool.not_false, Bool.not_not, List.reverse_cons, List.reverse_nil, Option.map_some, Option.map_none, up_same, uTuple, uList, uSet, atI_zero, atI_one, ixN_20, ixN_zero, List.set_cons_zero, uPow, b__law_refused, n__law_refused, cl__law_refused, xcs, sub]
  rcases hr with ⟨rfl, hr⟩ | ⟨rfl, hr⟩ | ⟨rfl, hr⟩
  · simp only [trSs, trS, trE, trT, trX, pl, trA, trO, trC, trI, uBin_s, uUn_s, uVar_s, uC_s, getS, setS, uOp, uAdd, uSub, uMul, uDiv, uMod, uPow, uNeg, uCmp, uEqF, uLt, uLe, uGt, uGe, uIsF, isNonU, uTru, Blt.fn, uLen, uAbs, uMax2, uMin2, uInt, uIx, startU, gam_fn, gam_gl, tab_xcs, tab_sub, UD_nx, UD_rt, UD_bk, UD_ct, UD_ex, spAt, glAt, gls, seqOf, List.map_cons, List.map_nil, List.cons_append, List.nil_append, List.length_cons, List.length_nil, List.replicate, Nat.reduceAdd, Nat.reduceSub, Nat.zero_add, reduceIte, Bool.false_eq_true, Bool.true_eq_false, Bool.false_bne, Bool.true_bne, Bool.not_true, Bool.not_false, Bool.not_not, List.reverse_cons, List.reverse_nil, Option.map_some, Option.map_none, up_same, uTuple, uList, uSet, atI_zero, atI_one, ixN_20, ixN_zero, List.set_cons_zero, uPow, decide_true]
    refine ⟨x, y, rfl, hx, hy.1, hl, ?_⟩
    rw [hr]
    simp only [trSs, trS, trE, trT, trX, pl, trA, trO, trC, trI, uBin_s, uUn_s, uVar_s, uC_s, getS, setS, uOp, uAdd, uSub, uMul, uDiv, uMod, uPow, uNeg, uCmp, uEqF, uLt, uLe, uGt, uGe, uIsF, isNonU, uTru, Blt.fn, uLen, uAbs, uMax2, uMin2, uInt, uIx, startU, gam_fn, gam_gl, tab_xcs, tab_sub, UD_nx, UD_rt, UD_bk, UD_ct, UD_ex, spAt, glAt, gls, seqOf, List.map_cons, List.map_nil, List.cons_append, List.nil_append, List.length_cons, List.length_nil, List.replicate, Nat.reduceAdd, Nat.reduceSub, Nat.zero_add, reduceIte, Bool.false_eq_true, Bool.true_eq_false, Bool.false_bne, Bool.true_bne, Bool.not_true, Bool.not_false, Bool.not_not, List.reverse_cons, List.reverse_nil, Option.map_some, Option.map_none, up_same, uTuple, uList, uSet, atI_zero, atI_one, ixN_20, ixN_zero, List.set_cons_zero, uPow, xnu, trH, trHs, xcs, sub]
    exact ⟨_, _, rfl, fin1⟩
  · simp only [trSs, trS, trE, trT, trX, pl, trA, trO, trC, trI, uBin_s, uUn_s, uVar_s, uC_s, getS, setS, uOp, uAdd, uSub, uMul, uDiv, uMod, uPow, uNeg, uCmp, uEqF, uLt, uLe, uGt, uGe, uIsF, isNonU, uTru, Blt.fn, uLen, uAbs, uMax2, uMin2, uInt, uIx, startU, gam_fn, gam_gl, tab_xcs, tab_sub, UD_nx, UD_rt, UD_bk, UD_ct, UD_ex, spAt, glAt, gls, seqOf, List.map_cons, List.map_nil, List.cons_append, List.nil_append, List.length_cons, List.length_nil, List.replicate, Nat.reduceAdd, Nat.reduceSub, Nat.zero_add, reduceIte, Bool.false_eq_true, Bool.true_eq_false, Bool.false_bne, Bool.true_bne, Bool.not_true, Bool.not_false, Bool.not_not, List.reverse_cons, List.reverse_nil, Option.map_some, Option.map_none, up_same, uTuple, uList, uSet, atI_zero, atI_one, ixN_20, ixN_zero, List.set_cons_zero, uPow, decide_true, show decide ((1 : Int) = 0) = false from rfl]
    refine ⟨x, y, rfl, hx, hy.1, ?_⟩
    rw [hr]
    simp only [trSs, trS, trE, trT, trX, pl, trA, trO, trC, trI, uBin_s, uUn_s, uVar_s, uC_s, getS, setS, uOp, uAdd, uSub, uMul, uDiv, uMod, uPow, uNeg, uCmp, uEqF, uLt, uLe, uGt, uGe, uIsF, isNonU, uTru, Blt.fn, uLen, uAbs, uMax2, uMin2, uInt, uIx, startU, gam_fn, gam_gl, tab_xcs, tab_sub, UD_nx, UD_rt, UD_bk, UD_ct, UD_ex, spAt, glAt, gls, seqOf, List.map_cons, List.map_nil, List.cons_append, List.nil_append, List.length_cons, List.length_nil, List.replicate, Nat.reduceAdd, Nat.reduceSub, Nat.zero_add, reduceIte, Bool.false_eq_true, Bool.true_eq_false, Bool.false_bne, Bool.true_bne, Bool.not_true, Bool.not_false, Bool.not_not, List.reverse_cons, List.reverse_nil, Option.map_some, Option.map_none, up_same, uTuple, uList, uSet, atI_zero, atI_one, ixN_20, ixN_zero, List.set_cons_zero, uPow, xnu, trH, trHs, xcs, sub]
    exact ⟨_, _, rfl, fin1⟩
  · simp only [trSs, trS, trE, trT, trX, pl, trA, trO, trC, trI, uBin_s, uUn_s, uVar_s, uC_s, getS, setS, uOp, uAdd, uSub, uMul, uDiv, uMod, uPow, uNeg, uCmp, uEqF, uLt, uLe, uGt, uGe, uIsF, isNonU, uTru, Blt.fn, uLen, uAbs, uMax2, uMin2, uInt, uIx, startU, gam_fn, gam_gl, tab_xcs, tab_sub, UD_nx, UD_rt, UD_bk, UD_ct, UD_ex, spAt, glAt, gls, seqOf, List.map_cons, List.map_nil, List.cons_append, List.nil_append, List.length_cons, List.length_nil, List.replicate, Nat.reduceAdd, Nat.reduceSub, Nat.zero_add, reduceIte, Bool.false_eq_true, Bool.true_eq_false, Bool.false_bne, Bool.true_bne, Bool.not_true, Bool.not_false, Bool.not_not, List.reverse_cons, List.reverse_nil, Option.map_some, Option.map_none, up_same, uTuple, uList, uSet, atI_zero, atI_one, ixN_20, ixN_zero, List.set_cons_zero, uPow, decide_true, show decide ((2 : Int) = 0) = false from rfl, show decide ((2 : Int) = 1) = false from rfl]
    refine ⟨x, y, z, rfl, hx.1, hy.1, hz, ?_⟩
    rw [hr]
    simp only [trSs, trS, trE, trT, trX, pl, trA, trO, trC, trI, uBin_s, uUn_s, uVar_s, uC_s, getS, setS, uOp, uAdd, uSub, uMul, uDiv, uMod, uPow, uNeg, uCmp, uEqF, uLt, uLe, uGt, uGe, uIsF, isNonU, uTru, Blt.fn, uLen, uAbs, uMax2, uMin2, uInt, uIx, startU, gam_fn, gam_gl, tab_xcs, tab_sub, UD_nx, UD_rt, UD_bk, UD_ct, UD_ex, spAt, glAt, gls, seqOf, List.map_cons, List.map_nil, List.cons_append, List.nil_append, List.length_cons, List.length_nil, List.replicate, Nat.reduceAdd, Nat.reduceSub, Nat.zero_add, reduceIte, Bool.false_eq_true, Bool.true_eq_false, Bool.false_bne, Bool.true_bne, Bool.not_true, Bool.not_false, Bool.not_not, List.reverse_cons, List.reverse_nil, Option.map_some, Option.map_none, up_same, uTuple, uList, uSet, atI_zero, atI_one, ixN_20, ixN_zero, List.set_cons_zero, uPow, xnu, trH, trHs, xcs, sub]
    exact ⟨_, _, rfl, fin1⟩
/-! ### _law_refusals -/
def AskP (G : UH) (u : U) : Prop := ∃ a w x y z s, u = .ref a ∧ G a = some (.lst [.int w, x, y, z, .str s]) ∧ okS G x ∧ okS G y ∧ okS G z ∧ (tupL x).length ≤ 100000 ∧ Rfd w x y z s
theorem okS_le {G G' : UH} (l : Le G G') {u : U} (h : okS G u) : okS G' u := ⟨tyS_le l h.1, fun ws e x hx => tyS_le l (h.2 ws e x hx)⟩
theorem AskP.le {G G' : UH} (l : Le G G') {u : U} (h : AskP G u) : AskP G' u := by
  obtain ⟨a, w, x, y, z, s, h1, h2, h3, h4, h5, h6, h7⟩ := h
  exact ⟨a, w, x, y, z, s, h1, l _ _ h2, okS_le l h3, okS_le l h4, okS_le l h5, h6, h7⟩
def sp__law_refusals : USp := fun us G Q _ => ∃ p g, us = [.ref p] ∧ Pur G p g ∧ ∀ G', Q (.bl true) G'
def cl__law_refusals : List (Str × USp) := [("_law_pick", sp_pick), ("_law_refused", sp__law_refused)]
theorem l__law_refusals {G0 : UH} {s0 s1 s2 s3 s4 s5 s6 s7 : Option U} {ds : Deps} (hd : depsOk G0 ds) (D : UE) (qn : ∀ o8 o9 G, Le G0 G → D.nx [s0, s1, s2, s3, s4, s5, s6, s7, o8, o9] G) :
    ∀ (us : List U) (o8 o9 : Option U) (G : UH), Le G0 G → (∀ u ∈ us, AskP G u) →
    forU ds (trG (.nm 8)) (trSs (TB cl__law_refusals) (GM cl__law_refusals) l1__law_refusals) D us [s0, s1, s2, s3, s4, s5, s6, s7, o8, o9] G
  | [], o8, o9, G, l, _ => ⟨deps_le l hd, qn _ _ G l⟩
  | u :: us, o8, o9, G, l, h => by
    have next : ∀ o8 o9 G', Le G G' → forU ds (trG (.nm 8)) (trSs (TB cl__law_refusals) (GM cl__law_refusals) l1__law_refusals) D us [s0, s1, s2, s3, s4, s5, s6, s7, o8, o9] G' :=
      fun o8 o9 G' l' => l__law_refusals hd D qn us _ _ G' (l.trans l') fun u hu => (h u (List.mem_cons_of_mem _ hu)).le l'
    refine ⟨deps_le l hd, ?_⟩
    generalize forU _ _ _ D us = TT at next ⊢
    obtain ⟨a, w, x, y, z, s, rfl, ha, hx, hy, hz, hl, hr⟩ := h u List.mem_cons_self
    have i2 : ∀ a b c d e : U, atI [a, b, c, d, e] 2 = some c := fun _ _ _ _ _ => rfl
    have i3 : ∀ a b c d e : U, atI [a, b, c, d, e] 3 = some d := fun _ _ _ _ _ => rfl
    have i4 : ∀ a b c d e : U, atI [a, b, c, d, e] 4 = some e := fun _ _ _ _ _ => rfl
    simp only [trSs, trS, trE, trT, trX, pl, trA, trO, trC, trI, uBin_s, uUn_s, uVar_s, uC_s, getS, setS, uOp, uAdd, uSub, uMul, uDiv, uMod, uPow, uNeg, uCmp, uEqF, uLt, uLe, uGt, uGe, uIsF, isNonU, uTru, Blt.fn, uLen, uAbs, uMax2, uMin2, uInt, uIx, startU, gam_fn, gam_gl, tab_xcs, tab_sub, UD_nx, UD_rt, UD_bk, UD_ct, UD_ex, spAt, glAt, gls, seqOf, List.map_cons, List.map_nil, List.cons_append, List.nil_append, List.length_cons, List.length_nil, List.replicate, Nat.reduceAdd, Nat.reduceSub, Nat.zero_add, reduceIte, Bool.false_eq_true, Bool.true_eq_false, Bool.false_bne, Bool.true_bne, Bool.not_true, Bool.not_false, Bool.not_not, List.reverse_cons, List.reverse_nil, Option.map_some, Option.map_none, up_same, uTuple, uList, uSet, atI_zero, atI_one, ixN_20, ixN_zero, List.set_cons_zero, uPow, trG, l1__law_refusals, cl__law_refusals, ha, i2, i3, i4]
    refine ⟨w, x, y, z, s, rfl, hx, hy, hz, hl, hr, fun r G' hr' l' => ?_⟩
    simp only [trSs, trS, trE, trT, trX, pl, trA, trO, trC, trI, uBin_s, uUn_s, uVar_s, uC_s, getS, setS, uOp, uAdd, uSub, uMul, uDiv, uMod, uPow, uNeg, uCmp, uEqF, uLt, uLe, uGt, uGe, uIsF, isNonU, uTru, Blt.fn, uLen, uAbs, uMax2, uMin2, uInt, uIx, startU, gam_fn, gam_gl, tab_xcs, tab_sub, UD_nx, UD_rt, UD_bk, UD_ct, UD_ex, spAt, glAt, gls, seqOf, List.map_cons, List.map_nil, List.cons_append, List.nil_append, List.length_cons, List.length_nil, List.replicate, Nat.reduceAdd, Nat.reduceSub, Nat.zero_add, reduceIte, Bool.false_eq_true, Bool.true_eq_false, Bool.false_bne, Bool.true_bne, Bool.not_true, Bool.not_false, Bool.not_not, List.reverse_cons, List.reverse_nil, Option.map_some, Option.map_none, up_same, uTuple, uList, uSet, atI_zero, atI_one, ixN_20, ixN_zero, List.set_cons_zero, uPow, t1__law_refusals, hr', l' _ _ ha, i2, i3, i4]
    refine isi_str rfl ?_
    simp only [trSs, trS, trE, trT, trX, pl, trA, trO, trC, trI, uBin_s, uUn_s, uVar_s, uC_s, getS, setS, uOp, uAdd, uSub, uMul, uDiv, uMod, uPow, uNeg, uCmp, uEqF, uLt, uLe, uGt, uGe, uIsF, isNonU, uTru, Blt.fn, uLen, uAbs, uMax2, uMin2, uInt, uIx, startU, gam_fn, gam_gl, tab_xcs, tab_sub, UD_nx, UD_rt, UD_bk, UD_ct, UD_ex, spAt, glAt, gls, seqOf, List.map_cons, List.map_nil, List.cons_append, List.nil_append, List.length_cons, List.length_nil, List.replicate, Nat.reduceAdd, Nat.reduceSub, Nat.zero_add, reduceIte, Bool.false_eq_true, Bool.true_eq_false, Bool.false_bne, Bool.true_bne, Bool.not_true, Bool.not_false, Bool.not_not, List.reverse_cons, List.reverse_nil, Option.map_some, Option.map_none, up_same, uTuple, uList, uSet, atI_zero, atI_one, ixN_20, ixN_zero, List.set_cons_zero, uPow, kS, hr', l' _ _ ha, i4, decide_true]
    refine isi_bool rfl ?_
    simp only [trSs, trS, trE, trT, trX, pl, trA, trO, trC, trI, uBin_s, uUn_s, uVar_s, uC_s, getS, setS, uOp, uAdd, uSub, uMul, uDiv, uMod, uPow, uNeg, uCmp, uEqF, uLt, uLe, uGt, uGe, uIsF, isNonU, uTru, Blt.fn, uLen, uAbs, uMax2, uMin2, uInt, uIx, startU, gam_fn, gam_gl, tab_xcs, tab_sub, UD_nx, UD_rt, UD_bk, UD_ct, UD_ex, spAt, glAt, gls, seqOf, List.map_cons, List.map_nil, List.cons_append, List.nil_append, List.length_cons, List.length_nil, List.replicate, Nat.reduceAdd, Nat.reduceSub, Nat.zero_add, reduceIte, Bool.false_eq_true, Bool.true_eq_false, Bool.false_bne, Bool.true_bne, Bool.not_true, Bool.not_false, Bool.not_not, List.reverse_cons, List.reverse_nil, Option.map_some, Option.map_none, up_same, uTuple, uList, uSet, atI_zero, atI_one, ixN_20, ixN_zero, List.set_cons_zero, uPow, kB, hr', decide_true]
    exact ⟨_, .refl _, next _ _ _ l'⟩
theorem ix_any {G : UH} {r : Addr} {us : List U} {P : U → Prop} (h : G r = some (.lst us)) (hP : ∀ u ∈ us, P u) {i : Int} (h0 : 0 ≤ i) (h1 : i < us.length) {Q : UK} (q : ∀ u, P u → Q u G) : uIx (.ref r) (.int i) G Q := by
  have hi : i.toNat < us.length := by omega
  unfold uIx
  simp only [h, atI_nat h0 (List.getElem?_eq_getElem hi)]
  exact q _ (hP _ (List.getElem_mem hi))
/-- no place in the heap -/
def nr1 : U → Bool
  | .ref _ => false
  | .ty _ => false
  | _ => true
def nr : U → Bool
  | .tup us => us.all nr1
  | u => nr1 u
theorem nr1_ok {u : U} (h : nr1 u = true) (G : UH) : tyS G u := by
  cases u with
  | ref a => cases h
  | ty n => cases h
  | _ => rfl
theorem nr_ok {u : U} (h : nr u = true) (G : UH) : okS G u := by
  cases u with
  | tup us => exact ⟨rfl, fun ws e x hx => by cases e; exact nr1_ok (List.all_eq_true.mp h x hx) G⟩
  | ref a => cases h
  | ty n => cases h
  | _ => exact ⟨rfl, fun ws e => by cases e⟩
theorem w__law_refusals (us : List U) (G : UH) (Q : UK) (E : UXn → UH → Prop) (h : sp__law_refusals us G Q E) : trSs (TB cl__law_refusals) (GM cl__law_refusals) b__law_refusals (UD Q E) (startU n__law_refusals us) G := by
  obtain ⟨p, g, rfl, hP, q⟩ := h
  have lg := line_ge
  simp only [trSs, trS, trE, trT, trX, pl, trA, trO, trC, trI, uBin_s, uUn_s, uVar_s, uC_s, getS, setS, uOp, uAdd, uSub, uMul, uDiv, uMod, uPow, uNeg, uCmp, uEqF, uLt, uLe, uGt, uGe, uIsF, isNonU, uTru, Blt.fn, uAbs, uMax2, uMin2, uInt, startU, gam_fn, gam_gl, tab_xcs, tab_sub, UD_nx, UD_rt, UD_bk, UD_ct, UD_ex, spAt, glAt, gls, List.map_cons, List.map_nil, List.cons_append, List.nil_append, List.length_cons, List.length_nil, List.replicate, Nat.reduceAdd, Nat.reduceSub, Nat.zero_add, reduceIte, Bool.false_eq_true, Bool.true_eq_false, Bool.false_bne, Bool.true_bne, Bool.not_true, Bool.not_false, Bool.not_not, List.reverse_cons, List.reverse_nil, Option.map_some, Option.map_none, up_same, uSet, atI_zero, atI_one, ixN_20, ixN_zero, List.set_cons_zero, uPow, b__law_refusals, n__law_refusals, trG]
  refine ⟨by omega, fun a1 ha1 => ⟨by omega, by omega, by omega, by omega, by omega, fun r1 hr1 => ?_⟩⟩
  have hP1 := (hP.upf ha1 (o := .lst [.int 1])).upf hr1 (o := .lst [.ref a1, .tup [.bl true], .tup [.int 1048576], .tup [.int 0, .int (-1048576)], .non, .str "", .tup [.non], .int 2])
  have n1 := hP.ne ha1
  have n2 := (hP.upf ha1 (o := .lst [.int 1])).ne hr1
  have e1 : UL.up (UL.up G a1 (.lst [.int 1])) r1 (.lst [.ref a1, .tup [.bl true], .tup [.int 1048576], .tup [.int 0, .int (-1048576)], .non, .str "", .tup [.non], .int 2]) a1 = some (.lst [.int 1]) := by
    rw [up_ne (fun z => by subst z; rw [up_same] at hr1; cases hr1)]
    exact up_same
  have e2 : UL.up (UL.up G a1 (.lst [.int 1])) r1 (.lst [.ref a1, .tup [.bl true], .tup [.int 1048576], .tup [.int 0, .int (-1048576)], .non, .str "", .tup [.non], .int 2]) r1 = some (.lst [.ref a1, .tup [.bl true], .tup [.int 1048576], .tup [.int 0, .int (-1048576)], .non, .str "", .tup [.non], .int 2]) := up_same
  generalize UL.up (UL.up G a1 (.lst [.int 1])) r1 _ = G1 at hP1 e1 e2 ⊢
  simp only [trSs, trS, trE, trT, trX, pl, trA, trO, trC, trI, uBin_s, uUn_s, uVar_s, uC_s, getS, setS, uOp, uAdd, uSub, uMul, uDiv, uMod, uPow, uNeg, uCmp, uEqF, uLt, uLe, uGt, uGe, uIsF, isNonU, uTru, Blt.fn, uAbs, uMax2, uMin2, uInt, startU, gam_fn, gam_gl, tab_xcs, tab_sub, UD_nx, UD_rt, UD_bk, UD_ct, UD_ex, spAt, glAt, gls, List.map_cons, List.map_nil, List.cons_append, List.nil_append, List.length_cons, List.length_nil, List.replicate, Nat.reduceAdd, Nat.reduceSub, Nat.zero_add, reduceIte, Bool.false_eq_true, Bool.true_eq_false, Bool.false_bne, Bool.true_bne, Bool.not_true, Bool.not_false, Bool.not_not, List.reverse_cons, List.reverse_nil, Option.map_some, Option.map_none, up_same, uSet, atI_zero, atI_one, ixN_20, ixN_zero, List.set_cons_zero, uPow, t11__law_refusals, trG]
  refine ⟨by omega, ⟨by decide, by decide, by decide⟩, by omega, fun r2 hr2 => ?_⟩
  have n3 := hP1.ne hr2
  have e3 : UL.up G1 r2 (.lst [.int 0, .int 65, .bl true, .non, .int (-1), .str "2", .tup [.int 2], .bl false, .int (10 ^ Int.toNat 30)]) r2 = some (.lst [.int 0, .int 65, .bl true, .non, .int (-1), .str "2", .tup [.int 2], .bl false, .int (10 ^ Int.toNat 30)]) := up_same
  have hP2 := hP1.upf hr2 (o := .lst [.int 0, .int 65, .bl true, .non, .int (-1), .str "2", .tup [.int 2], .bl false, .int (10 ^ Int.toNat 30)])
  have l2 := Le.new hr2 (o := .lst [.int 0, .int 65, .bl true, .non, .int (-1), .str "2", .tup [.int 2], .bl false, .int (10 ^ Int.toNat 30)])
  have e1 := l2 _ _ e1
  have e2 := l2 _ _ e2
  generalize UL.up G1 r2 _ = G2 at hP2 e1 e2 e3 ⊢
  simp only [trSs, trS, trE, trT, trX, pl, trA, trO, trC, trI, uBin_s, uUn_s, uVar_s, uC_s, getS, setS, uOp, uAdd, uSub, uMul, uDiv, uMod, uPow, uNeg, uCmp, uEqF, uLt, uLe, uGt, uGe, uIsF, isNonU, uTru, Blt.fn, uAbs, uMax2, uMin2, uInt, startU, gam_fn, gam_gl, tab_xcs, tab_sub, UD_nx, UD_rt, UD_bk, UD_ct, UD_ex, spAt, glAt, gls, List.map_cons, List.map_nil, List.cons_append, List.nil_append, List.length_cons, List.length_nil, List.replicate, Nat.reduceAdd, Nat.reduceSub, Nat.zero_add, reduceIte, Bool.false_eq_true, Bool.true_eq_false, Bool.false_bne, Bool.true_bne, Bool.not_true, Bool.not_false, Bool.not_not, List.reverse_cons, List.reverse_nil, Option.map_some, Option.map_none, up_same, uSet, atI_zero, atI_one, ixN_20, ixN_zero, List.set_cons_zero, uPow, t10__law_refusals, trG]
  refine ⟨by omega, by omega, by simp, by decide, by decide, by decide, by omega, by omega, by omega, by omega, fun a2 ha2 => ?_⟩
  have n4 := hP2.ne ha2
  have e4 : UL.up G2 a2 (.lst [.int 4096]) a2 = some (.lst [.int 4096]) := up_same
  have hP3 := hP2.upf ha2 (o := .lst [.int 4096])
  have l3 := Le.new ha2 (o := .lst [.int 4096])
  have e1 := l3 _ _ e1
  have e2 := l3 _ _ e2
  have e3 := l3 _ _ e3
  generalize UL.up G2 a2 _ = G3 at hP3 e1 e2 e3 e4 ⊢
  refine ⟨by omega, by omega, fun r3 hr3 => ?_⟩
  have n5 := hP3.ne hr3
  rw [rep_flat]
  have e5 : UL.up G3 r3 (.lst [.tup [], .tup (List.replicate (Int.toNat 65) (.int 0)), .tup [.int 65537], .tup [.int 1, .int (-65537)], .tup [.bl true], .ref a2, .non, .tup [.str "1"], .int 7]) r3 = some (.lst [.tup [], .tup (List.replicate (Int.toNat 65) (.int 0)), .tup [.int 65537], .tup [.int 1, .int (-65537)], .tup [.bl true], .ref a2, .non, .tup [.str "1"], .int 7]) := up_same
  have hP4 := hP3.upf hr3 (o := .lst [.tup [], .tup (List.replicate (Int.toNat 65) (.int 0)), .tup [.int 65537], .tup [.int 1, .int (-65537)], .tup [.bl true], .ref a2, .non, .tup [.str "1"], .int 7])
  have l4 := Le.new hr3 (o := .lst [.tup [], .tup (List.replicate (Int.toNat 65) (.int 0)), .tup [.int 65537], .tup [.int 1, .int (-65537)], .tup [.bl true], .ref a2, .non, .tup [.str "1"], .int 7])
  have e1 := l4 _ _ e1
  have e2 := l4 _ _ e2
  have e3 := l4 _ _ e3
  have e4 := l4 _ _ e4
  generalize UL.up G3 r3 _ = G4 at hP4 e1 e2 e3 e4 e5 ⊢
  simp only [trSs, trS, trE, trT, trX, pl, trA, trO, trC, trI, uBin_s, uUn_s, uVar_s, uC_s, getS, setS, uOp, uAdd, uSub, uMul, uDiv, uMod, uPow, uNeg, uCmp, uEqF, uLt, uLe, uGt, uGe, uIsF, isNonU, uTru, Blt.fn, uAbs, uMax2, uMin2, uInt, startU, gam_fn, gam_gl, tab_xcs, tab_sub, UD_nx, UD_rt, UD_bk, UD_ct, UD_ex, spAt, glAt, gls, List.map_cons, List.map_nil, List.cons_append, List.nil_append, List.length_cons, List.length_nil, List.replicate, Nat.reduceAdd, Nat.reduceSub, Nat.zero_add, reduceIte, Bool.false_eq_true, Bool.true_eq_false, Bool.false_bne, Bool.true_bne, Bool.not_true, Bool.not_false, Bool.not_not, List.reverse_cons, List.reverse_nil, Option.map_some, Option.map_none, up_same, uSet, atI_zero, atI_one, ixN_20, ixN_zero, List.set_cons_zero, uPow, t9__law_refusals, trG, cl__law_refusals]
  refine ⟨p, g, 8, rfl, hP4, by decide, by decide, fun c1 G5 c10 c11 hP5 f5 => ?_⟩
  have e1 := f5 _ _ n1.1.symm n1.2.symm e1
  have e2 := f5 _ _ n2.1.symm n2.2.symm e2
  have e3 := f5 _ _ n3.1.symm n3.2.symm e3
  have e4 := f5 _ _ n4.1.symm n4.2.symm e4
  have e5 := f5 _ _ n5.1.symm n5.2.symm e5
  refine ix_any (P := fun u => isS u = false ∧ (tupL u).length ≤ 100000 ∧ (u = .ref a1 ∨ ∀ G, okS G u)) e2 (fun u hu => ?_) c10 (by simpa using c11) fun row hrow => ?_
  · simp only [List.mem_cons, List.mem_nil_iff, or_false] at hu
    rcases hu with rfl | rfl | rfl | rfl | rfl | rfl | rfl | rfl <;> first | exact ⟨rfl, Nat.zero_le _, .inl rfl⟩ | exact ⟨rfl, by decide, .inr (nr_ok rfl)⟩
  simp only [trSs, trS, trE, trT, trX, pl, trA, trO, trC, trI, uBin_s, uUn_s, uVar_s, uC_s, getS, setS, uOp, uAdd, uSub, uMul, uDiv, uMod, uPow, uNeg, uCmp, uEqF, uLt, uLe, uGt, uGe, uIsF, isNonU, uTru, Blt.fn, uAbs, uMax2, uMin2, uInt, startU, gam_fn, gam_gl, tab_xcs, tab_sub, UD_nx, UD_rt, UD_bk, UD_ct, UD_ex, spAt, glAt, gls, List.map_cons, List.map_nil, List.cons_append, List.nil_append, List.length_cons, List.length_nil, List.replicate, Nat.reduceAdd, Nat.reduceSub, Nat.zero_add, reduceIte, Bool.false_eq_true, Bool.true_eq_false, Bool.false_bne, Bool.true_bne, Bool.not_true, Bool.not_false, Bool.not_not, List.reverse_cons, List.reverse_nil, Option.map_some, Option.map_none, up_same, uSet, atI_zero, atI_one, ixN_20, ixN_zero, List.set_cons_zero, uPow, t8__law_refusals, trG, cl__law_refusals]
  refine ⟨p, g, 9, rfl, hP5, by decide, by decide, fun c2 G6 c20 c21 hP6 f6 => ?_⟩
  have e1 := f6 _ _ n1.1.symm n1.2.symm e1
  have e3 := f6 _ _ n3.1.symm n3.2.symm e3
  have e4 := f6 _ _ n4.1.symm n4.2.symm e4
  have e5 := f6 _ _ n5.1.symm n5.2.symm e5
  refine ix_any (P := fun u => okM u = false ∧ (∀ G, okS G u) ∧ (tupL u).length ≤ 100000) e3 (fun u hu => ?_) c20 (by simpa using c21) fun rate hrate => ?_
  · simp only [List.mem_cons, List.mem_nil_iff, or_false] at hu
    rcases hu with rfl | rfl | rfl | rfl | rfl | rfl | rfl | rfl | rfl <;> exact ⟨by decide, nr_ok rfl, by decide⟩
  simp only [trSs, trS, trE, trT, trX, pl, trA, trO, trC, trI, uBin_s, uUn_s, uVar_s, uC_s, getS, setS, uOp, uAdd, uSub, uMul, uDiv, uMod, uPow, uNeg, uCmp, uEqF, uLt, uLe, uGt, uGe, uIsF, isNonU, uTru, Blt.fn, uAbs, uMax2, uMin2, uInt, startU, gam_fn, gam_gl, tab_xcs, tab_sub, UD_nx, UD_rt, UD_bk, UD_ct, UD_ex, spAt, glAt, gls, List.map_cons, List.map_nil, List.cons_append, List.nil_append, List.length_cons, List.length_nil, List.replicate, Nat.reduceAdd, Nat.reduceSub, Nat.zero_add, reduceIte, Bool.false_eq_true, Bool.true_eq_false, Bool.false_bne, Bool.true_bne, Bool.not_true, Bool.not_false, Bool.not_not, List.reverse_cons, List.reverse_nil, Option.map_some, Option.map_none, up_same, uSet, atI_zero, atI_one, ixN_20, ixN_zero, List.set_cons_zero, uPow, t7__law_refusals, trG, cl__law_refusals]
  refine ⟨p, g, 9, rfl, hP6, by decide, by decide, fun c3 G7 c30 c31 hP7 f7 => ?_⟩
  have e1 := f7 _ _ n1.1.symm n1.2.symm e1
  have e4 := f7 _ _ n4.1.symm n4.2.symm e4
  have e5 := f7 _ _ n5.1.symm n5.2.symm e5
  refine ix_any (P := fun u => okWs u = false ∧ (u = .ref a2 ∨ ∀ G, okS G u)) e5 (fun u hu => ?_) c30 (by simpa using c31) fun tap htap => ?_
  · simp only [List.mem_cons, List.mem_nil_iff, or_false] at hu
    rcases hu with rfl | rfl | rfl | rfl | rfl | rfl | rfl | rfl | rfl <;> first | exact ⟨rfl, .inl rfl⟩ | exact ⟨by decide, .inr (nr_ok rfl)⟩
  have okRow : okS G7 row := by
    rcases hrow.2.2 with rfl | h
    · exact ⟨by unfold tyS tyN; simp [e1], fun ws e => by cases e⟩
    · exact h G7
  have okTap : okS G7 tap := by
    rcases htap.2 with rfl | h
    · exact ⟨by unfold tyS tyN; simp [e4], fun ws e => by cases e⟩
    · exact h G7
  have okRate := hrate.2.1 G7
  have kS : lookW row (.int 2) = some "sound" ∧ lookW row rate = some "sound" := by
    unfold lookW
    rw [hrow.1]
    exact ⟨rfl, rfl⟩
  have kM : lookW (.tup [.int 3]) rate = some "many" := by
    unfold lookW
    rw [hrate.1]
    rfl
  have kU : ∀ y z, ratesW rate y z = some "up" := fun y z => by
    unfold ratesW
    rw [hrate.1]
    rfl
  have kD : ∀ (i : Int) z, okM (.int i) = true → ratesW (.int i) rate z = some "down" := fun i z h => by
    unfold ratesW
    rw [h, hrate.1]
    rfl
  have kW : ratesW (.int 1) (.int 1) tap = some "weights" := by
    unfold ratesW
    rw [show okM (.int 1) = true from rfl, htap.1]
    rfl
  simp only [trSs, trS, trE, trT, trX, pl, trA, trO, trC, trI, uBin_s, uUn_s, uVar_s, uC_s, getS, setS, uOp, uAdd, uSub, uMul, uDiv, uMod, uPow, uNeg, uCmp, uEqF, uLt, uLe, uGt, uGe, uIsF, isNonU, uTru, Blt.fn, uLen, uAbs, uMax2, uMin2, uInt, uIx, startU, gam_fn, gam_gl, tab_xcs, tab_sub, UD_nx, UD_rt, UD_bk, UD_ct, UD_ex, spAt, glAt, gls, seqOf, List.map_cons, List.map_nil, List.cons_append, List.nil_append, List.length_cons, List.length_nil, List.replicate, Nat.reduceAdd, Nat.reduceSub, Nat.zero_add, reduceIte, Bool.false_eq_true, Bool.true_eq_false, Bool.false_bne, Bool.true_bne, Bool.not_true, Bool.not_false, Bool.not_not, List.reverse_cons, List.reverse_nil, Option.map_some, Option.map_none, up_same, uTuple, uList, uSet, atI_zero, atI_one, ixN_20, ixN_zero, List.set_cons_zero, uPow, t6__law_refusals, trG]
  have okI : ∀ {G : UH} (i : Int), okS G (.int i) := fun i => ⟨rfl, fun ws e => by cases e⟩
  have okT : ∀ {G : UH} (i : Int), okS G (.tup [.int i]) := fun i => ⟨rfl, fun ws e x hx => by cases e; rw [List.mem_singleton.mp hx]; rfl⟩
  refine ⟨by omega, fun p1 h1 => ?_⟩
  have L := Le.new h1 (o := .lst [.int 0, row, .int 2, .int 0, .str "sound"])
  have okRow := okS_le L okRow
  have okRate := okS_le L okRate
  have okTap := okS_le L okTap
  have A1 : AskP (UL.up G7 p1 (.lst [.int 0, row, .int 2, .int 0, .str "sound"])) (.ref p1) := ⟨p1, 0, row, .int 2, .int 0, "sound", rfl, up_same, okRow, okI 2, okI 0, hrow.2.1, .inl ⟨rfl, kS.1⟩⟩
  generalize UL.up G7 p1 _ = G8 at okRow okRate okTap A1 ⊢
  refine ⟨by omega, fun p2 h2 => ?_⟩
  have L := Le.new h2 (o := .lst [.int 1, row, .int 2, .int 0, .str "sound"])
  have okRow := okS_le L okRow
  have okRate := okS_le L okRate
  have okTap := okS_le L okTap
  have A1 := A1.le L
  have A2 : AskP (UL.up G8 p2 (.lst [.int 1, row, .int 2, .int 0, .str "sound"])) (.ref p2) := ⟨p2, 1, row, .int 2, .int 0, "sound", rfl, up_same, okRow, okI 2, okI 0, hrow.2.1, .inr (.inl ⟨rfl, kS.1⟩)⟩
  generalize UL.up G8 p2 _ = G9 at okRow okRate okTap A1 A2 ⊢
  refine ⟨by omega, by omega, fun p3 h3 => ?_⟩
  have L := Le.new h3 (o := .lst [.int 0, .tup [.int 3], rate, .int 0, .str "many"])
  have okRow := okS_le L okRow
  have okRate := okS_le L okRate
  have okTap := okS_le L okTap
  have A1 := A1.le L
  have A2 := A2.le L
  have A3 : AskP (UL.up G9 p3 (.lst [.int 0, .tup [.int 3], rate, .int 0, .str "many"])) (.ref p3) := ⟨p3, 0, .tup [.int 3], rate, .int 0, "many", rfl, up_same, okT 3, okRate, okI 0, (by decide), .inl ⟨rfl, kM⟩⟩
  generalize UL.up G9 p3 _ = G10 at okRow okRate okTap A1 A2 A3 ⊢
  refine ⟨by omega, by omega, fun p4 h4 => ?_⟩
  have L := Le.new h4 (o := .lst [.int 1, .tup [.int 3], rate, .int 0, .str "many"])
  have okRow := okS_le L okRow
  have okRate := okS_le L okRate
  have okTap := okS_le L okTap
  have A1 := A1.le L
  have A2 := A2.le L
  have A3 := A3.le L
  have A4 : AskP (UL.up G10 p4 (.lst [.int 1, .tup [.int 3], rate, .int 0, .str "many"])) (.ref p4) := ⟨p4, 1, .tup [.int 3], rate, .int 0, "many", rfl, up_same, okT 3, okRate, okI 0, (by decide), .inr (.inl ⟨rfl, kM⟩)⟩
  generalize UL.up G10 p4 _ = G11 at okRow okRate okTap A1 A2 A3 A4 ⊢
  refine ⟨by omega, fun q1 w1 => ?_⟩
  have L := Le.new w1 (o := .lst [.ref p1, .ref p2, .ref p3, .ref p4])
  have okRow := okS_le L okRow
  have okRate := okS_le L okRate
  have okTap := okS_le L okTap
  have A1 := A1.le L
  have A2 := A2.le L
  have A3 := A3.le L
  have A4 := A4.le L
  have B1 : UL.up G11 q1 (.lst [.ref p1, .ref p2, .ref p3, .ref p4]) q1 = some (.lst [.ref p1, .ref p2, .ref p3, .ref p4]) := up_same
  generalize UL.up G11 q1 _ = G12 at okRow okRate okTap A1 A2 A3 A4 B1 ⊢
  simp only [trSs, trS, trE, trT, trX, pl, trA, trO, trC, trI, uBin_s, uUn_s, uVar_s, uC_s, getS, setS, uOp, uAdd, uSub, uMul, uDiv, uMod, uPow, uNeg, uCmp, uEqF, uLt, uLe, uGt, uGe, uIsF, isNonU, uTru, Blt.fn, uLen, uAbs, uMax2, uMin2, uInt, uIx, startU, gam_fn, gam_gl, tab_xcs, tab_sub, UD_nx, UD_rt, UD_bk, UD_ct, UD_ex, spAt, glAt, gls, seqOf, List.map_cons, List.map_nil, List.cons_append, List.nil_append, List.length_cons, List.length_nil, List.replicate, Nat.reduceAdd, Nat.reduceSub, Nat.zero_add, reduceIte, Bool.false_eq_true, Bool.true_eq_false, Bool.false_bne, Bool.true_bne, Bool.not_true, Bool.not_false, Bool.not_not, List.reverse_cons, List.reverse_nil, Option.map_some, Option.map_none, up_same, uTuple, uList, uSet, atI_zero, atI_one, ixN_20, ixN_zero, List.set_cons_zero, uPow, t5__law_refusals, trG]
  refine ⟨by omega, fun p5 h5 => ?_⟩
  have L := Le.new h5 (o := .lst [.int 0, row, rate, .int 0, .str "sound"])
  have okRow := okS_le L okRow
  have okRate := okS_le L okRate
  have okTap := okS_le L okTap
  have A1 := A1.le L
  have A2 := A2.le L
  have A3 := A3.le L
  have A4 := A4.le L
  have B1 := L _ _ B1
  have A5 : AskP (UL.up G12 p5 (.lst [.int 0, row, rate, .int 0, .str "sound"])) (.ref p5) := ⟨p5, 0, row, rate, .int 0, "sound", rfl, up_same, okRow, okRate, okI 0, hrow.2.1, .inl ⟨rfl, kS.2⟩⟩
  generalize UL.up G12 p5 _ = G13 at okRow okRate okTap A1 A2 A3 A4 A5 B1 ⊢
  refine ⟨by omega, fun p6 h6 => ?_⟩
  have L := Le.new h6 (o := .lst [.int 1, row, rate, .int 0, .str "sound"])
  have okRow := okS_le L okRow
  have okRate := okS_le L okRate
  have okTap := okS_le L okTap
  have A1 := A1.le L
  have A2 := A2.le L
  have A3 := A3.le L
  have A4 := A4.le L
  have A5 := A5.le L
  have B1 := L _ _ B1
  have A6 : AskP (UL.up G13 p6 (.lst [.int 1, row, rate, .int 0, .str "sound"])) (.ref p6) := ⟨p6, 1, row, rate, .int 0, "sound", rfl, up_same, okRow, okRate, okI 0, hrow.2.1, .inr (.inl ⟨rfl, kS.2⟩)⟩
  generalize UL.up G13 p6 _ = G14 at okRow okRate okTap A1 A2 A3 A4 A5 A6 B1 ⊢
  refine ⟨by omega, by omega, fun p7 h7 => ?_⟩
  have L := Le.new h7 (o := .lst [.int 2, rate, .int 1, .tup [.int 4096], .str "up"])
  have okRow := okS_le L okRow
  have okRate := okS_le L okRate
  have okTap := okS_le L okTap
  have A1 := A1.le L
  have A2 := A2.le L
  have A3 := A3.le L
  have A4 := A4.le L
  have A5 := A5.le L
  have A6 := A6.le L
  have B1 := L _ _ B1
  have A7 : AskP (UL.up G14 p7 (.lst [.int 2, rate, .int 1, .tup [.int 4096], .str "up"])) (.ref p7) := ⟨p7, 2, rate, .int 1, .tup [.int 4096], "up", rfl, up_same, okRate, okI 1, okT 4096, hrate.2.2, .inr (.inr ⟨rfl, kU _ _⟩)⟩
  generalize UL.up G14 p7 _ = G15 at okRow okRate okTap A1 A2 A3 A4 A5 A6 A7 B1 ⊢
  refine ⟨by omega, fun q2 w2 => ?_⟩
  have L := Le.new w2 (o := .lst [.ref p5, .ref p6, .ref p7])
  have okRow := okS_le L okRow
  have okRate := okS_le L okRate
  have okTap := okS_le L okTap
  have A1 := A1.le L
  have A2 := A2.le L
  have A3 := A3.le L
  have A4 := A4.le L
  have A5 := A5.le L
  have A6 := A6.le L
  have A7 := A7.le L
  have B1 := L _ _ B1
  have B2 : UL.up G15 q2 (.lst [.ref p5, .ref p6, .ref p7]) q2 = some (.lst [.ref p5, .ref p6, .ref p7]) := up_same
  generalize UL.up G15 q2 _ = G16 at okRow okRate okTap A1 A2 A3 A4 A5 A6 A7 B1 B2 ⊢
  simp only [trSs, trS, trE, trT, trX, pl, trA, trO, trC, trI, uBin_s, uUn_s, uVar_s, uC_s, getS, setS, uOp, uAdd, uSub, uMul, uDiv, uMod, uPow, uNeg, uCmp, uEqF, uLt, uLe, uGt, uGe, uIsF, isNonU, uTru, Blt.fn, uLen, uAbs, uMax2, uMin2, uInt, uIx, startU, gam_fn, gam_gl, tab_xcs, tab_sub, UD_nx, UD_rt, UD_bk, UD_ct, UD_ex, spAt, glAt, gls, seqOf, List.map_cons, List.map_nil, List.cons_append, List.nil_append, List.length_cons, List.length_nil, List.replicate, Nat.reduceAdd, Nat.reduceSub, Nat.zero_add, reduceIte, Bool.false_eq_true, Bool.true_eq_false, Bool.false_bne, Bool.true_bne, Bool.not_true, Bool.not_false, Bool.not_not, List.reverse_cons, List.reverse_nil, Option.map_some, Option.map_none, up_same, uTuple, uList, uSet, atI_zero, atI_one, ixN_20, ixN_zero, List.set_cons_zero, uPow, B1, B2]
  refine ⟨by omega, fun v2 x2 => ?_⟩
  have L := Le.new x2 (o := .lst [.ref p1, .ref p2, .ref p3, .ref p4, .ref p5, .ref p6, .ref p7])
  have okRow := okS_le L okRow
  have okRate := okS_le L okRate
  have okTap := okS_le L okTap
  have A1 := A1.le L
  have A2 := A2.le L
  have A3 := A3.le L
  have A4 := A4.le L
  have A5 := A5.le L
  have A6 := A6.le L
  have A7 := A7.le L
  have C2 : UL.up G16 v2 (.lst [.ref p1, .ref p2, .ref p3, .ref p4, .ref p5, .ref p6, .ref p7]) v2 = some (.lst [.ref p1, .ref p2, .ref p3, .ref p4, .ref p5, .ref p6, .ref p7]) := up_same
  generalize UL.up G16 v2 _ = G17 at okRow okRate okTap A1 A2 A3 A4 A5 A6 A7 C2 ⊢
  simp only [trSs, trS, trE, trT, trX, pl, trA, trO, trC, trI, uBin_s, uUn_s, uVar_s, uC_s, getS, setS, uOp, uAdd, uSub, uMul, uDiv, uMod, uPow, uNeg, uCmp, uEqF, uLt, uLe, uGt, uGe, uIsF, isNonU, uTru, Blt.fn, uLen, uAbs, uMax2, uMin2, uInt, uIx, startU, gam_fn, gam_gl, tab_xcs, tab_sub, UD_nx, UD_rt, UD_bk, UD_ct, UD_ex, spAt, glAt, gls, seqOf, List.map_cons, List.map_nil, List.cons_append, List.nil_append, List.length_cons, List.length_nil, List.replicate, Nat.reduceAdd, Nat.reduceSub, Nat.zero_add, reduceIte, Bool.false_eq_true, Bool.true_eq_false, Bool.false_bne, Bool.true_bne, Bool.not_true, Bool.not_false, Bool.not_not, List.reverse_cons, List.reverse_nil, Option.map_some, Option.map_none, up_same, uTuple, uList, uSet, atI_zero, atI_one, ixN_20, ixN_zero, List.set_cons_zero, uPow, t4__law_refusals, trG]
  refine ⟨by omega, by omega, fun p8 h8 => ?_⟩
  have L := Le.new h8 (o := .lst [.int 2, .int 1, rate, .tup [.int 4096], .str "down"])
  have okRow := okS_le L okRow
  have okRate := okS_le L okRate
  have okTap := okS_le L okTap
  have A1 := A1.le L
  have A2 := A2.le L
  have A3 := A3.le L
  have A4 := A4.le L
  have A5 := A5.le L
  have A6 := A6.le L
  have A7 := A7.le L
  have C2 := L _ _ C2
  have A8 : AskP (UL.up G17 p8 (.lst [.int 2, .int 1, rate, .tup [.int 4096], .str "down"])) (.ref p8) := ⟨p8, 2, .int 1, rate, .tup [.int 4096], "down", rfl, up_same, okI 1, okRate, okT 4096, (by decide), .inr (.inr ⟨rfl, kD 1 _ rfl⟩)⟩
  generalize UL.up G17 p8 _ = G18 at okRow okRate okTap A1 A2 A3 A4 A5 A6 A7 A8 C2 ⊢
  refine ⟨by omega, fun p9 h9 => ?_⟩
  have L := Le.new h9 (o := .lst [.int 2, .int 1, .int 1, tap, .str "weights"])
  have okRow := okS_le L okRow
  have okRate := okS_le L okRate
  have okTap := okS_le L okTap
  have A1 := A1.le L
  have A2 := A2.le L
  have A3 := A3.le L
  have A4 := A4.le L
  have A5 := A5.le L
  have A6 := A6.le L
  have A7 := A7.le L
  have A8 := A8.le L
  have C2 := L _ _ C2
  have A9 : AskP (UL.up G18 p9 (.lst [.int 2, .int 1, .int 1, tap, .str "weights"])) (.ref p9) := ⟨p9, 2, .int 1, .int 1, tap, "weights", rfl, up_same, okI 1, okI 1, okTap, (by decide), .inr (.inr ⟨rfl, kW⟩)⟩
  generalize UL.up G18 p9 _ = G19 at okRow okRate okTap A1 A2 A3 A4 A5 A6 A7 A8 A9 C2 ⊢
  refine ⟨by omega, fun p10 h10 => ?_⟩
  have L := Le.new h10 (o := .lst [.int 2, rate, rate, tap, .str "up"])
  have okRow := okS_le L okRow
  have okRate := okS_le L okRate
  have okTap := okS_le L okTap
  have A1 := A1.le L
  have A2 := A2.le L
  have A3 := A3.le L
  have A4 := A4.le L
  have A5 := A5.le L
  have A6 := A6.le L
  have A7 := A7.le L
  have A8 := A8.le L
  have A9 := A9.le L
  have C2 := L _ _ C2
  have A10 : AskP (UL.up G19 p10 (.lst [.int 2, rate, rate, tap, .str "up"])) (.ref p10) := ⟨p10, 2, rate, rate, tap, "up", rfl, up_same, okRate, okRate, okTap, hrate.2.2, .inr (.inr ⟨rfl, kU _ _⟩)⟩
  generalize UL.up G19 p10 _ = G20 at okRow okRate okTap A1 A2 A3 A4 A5 A6 A7 A8 A9 A10 C2 ⊢
  refine ⟨by omega, fun p11 h11 => ?_⟩
  have L := Le.new h11 (o := .lst [.int 2, .int 64, rate, tap, .str "down"])
  have okRow := okS_le L okRow
  have okRate := okS_le L okRate
  have okTap := okS_le L okTap
  have A1 := A1.le L
  have A2 := A2.le L
  have A3 := A3.le L
  have A4 := A4.le L
  have A5 := A5.le L
  have A6 := A6.le L
  have A7 := A7.le L
  have A8 := A8.le L
  have A9 := A9.le L
  have A10 := A10.le L
  have C2 := L _ _ C2
  have A11 : AskP (UL.up G20 p11 (.lst [.int 2, .int 64, rate, tap, .str "down"])) (.ref p11) := ⟨p11, 2, .int 64, rate, tap, "down", rfl, up_same, okI 64, okRate, okTap, (by decide), .inr (.inr ⟨rfl, kD 64 _ rfl⟩)⟩
  generalize UL.up G20 p11 _ = G21 at okRow okRate okTap A1 A2 A3 A4 A5 A6 A7 A8 A9 A10 A11 C2 ⊢
  refine ⟨by omega, fun q3 w3 => ?_⟩
  have L := Le.new w3 (o := .lst [.ref p8, .ref p9, .ref p10, .ref p11])
  have okRow := okS_le L okRow
  have okRate := okS_le L okRate
  have okTap := okS_le L okTap
  have A1 := A1.le L
  have A2 := A2.le L
  have A3 := A3.le L
  have A4 := A4.le L
  have A5 := A5.le L
  have A6 := A6.le L
  have A7 := A7.le L
  have A8 := A8.le L
  have A9 := A9.le L
  have A10 := A10.le L
  have A11 := A11.le L
  have C2 := L _ _ C2
  have B3 : UL.up G21 q3 (.lst [.ref p8, .ref p9, .ref p10, .ref p11]) q3 = some (.lst [.ref p8, .ref p9, .ref p10, .ref p11]) := up_same
  generalize UL.up G21 q3 _ = G22 at okRow okRate okTap A1 A2 A3 A4 A5 A6 A7 A8 A9 A10 A11 C2 B3 ⊢
  simp only [trSs, trS, trE, trT, trX, pl, trA, trO, trC, trI, uBin_s, uUn_s, uVar_s, uC_s, getS, setS, uOp, uAdd, uSub, uMul, uDiv, uMod, uPow, uNeg, uCmp, uEqF, uLt, uLe, uGt, uGe, uIsF, isNonU, uTru, Blt.fn, uLen, uAbs, uMax2, uMin2, uInt, uIx, startU, gam_fn, gam_gl, tab_xcs, tab_sub, UD_nx, UD_rt, UD_bk, UD_ct, UD_ex, spAt, glAt, gls, seqOf, List.map_cons, List.map_nil, List.cons_append, List.nil_append, List.length_cons, List.length_nil, List.replicate, Nat.reduceAdd, Nat.reduceSub, Nat.zero_add, reduceIte, Bool.false_eq_true, Bool.true_eq_false, Bool.false_bne, Bool.true_bne, Bool.not_true, Bool.not_false, Bool.not_not, List.reverse_cons, List.reverse_nil, Option.map_some, Option.map_none, up_same, uTuple, uList, uSet, atI_zero, atI_one, ixN_20, ixN_zero, List.set_cons_zero, uPow, C2, B3]
  refine ⟨by omega, fun v3 x3 => ?_⟩
  have L := Le.new x3 (o := .lst [.ref p1, .ref p2, .ref p3, .ref p4, .ref p5, .ref p6, .ref p7, .ref p8, .ref p9, .ref p10, .ref p11])
  have okRow := okS_le L okRow
  have okRate := okS_le L okRate
  have okTap := okS_le L okTap
  have A1 := A1.le L
  have A2 := A2.le L
  have A3 := A3.le L
  have A4 := A4.le L
  have A5 := A5.le L
  have A6 := A6.le L
  have A7 := A7.le L
  have A8 := A8.le L
  have A9 := A9.le L
  have A10 := A10.le L
  have A11 := A11.le L
  have C3 : UL.up G22 v3 (.lst [.ref p1, .ref p2, .ref p3, .ref p4, .ref p5, .ref p6, .ref p7, .ref p8, .ref p9, .ref p10, .ref p11]) v3 = some (.lst [.ref p1, .ref p2, .ref p3, .ref p4, .ref p5, .ref p6, .ref p7, .ref p8, .ref p9, .ref p10, .ref p11]) := up_same
  generalize UL.up G22 v3 _ = G23 at okRow okRate okTap A1 A2 A3 A4 A5 A6 A7 A8 A9 A10 A11 C3 ⊢
  simp only [trSs, trS, trE, trT, trX, pl, trA, trO, trC, trI, uBin_s, uUn_s, uVar_s, uC_s, getS, setS, uOp, uAdd, uSub, uMul, uDiv, uMod, uPow, uNeg, uCmp, uEqF, uLt, uLe, uGt, uGe, uIsF, isNonU, uTru, Blt.fn, uLen, uAbs, uMax2, uMin2, uInt, uIx, startU, gam_fn, gam_gl, tab_xcs, tab_sub, UD_nx, UD_rt, UD_bk, UD_ct, UD_ex, spAt, glAt, gls, seqOf, List.map_cons, List.map_nil, List.cons_append, List.nil_append, List.length_cons, List.length_nil, List.replicate, Nat.reduceAdd, Nat.reduceSub, Nat.zero_add, reduceIte, Bool.false_eq_true, Bool.true_eq_false, Bool.false_bne, Bool.true_bne, Bool.not_true, Bool.not_false, Bool.not_not, List.reverse_cons, List.reverse_nil, Option.map_some, Option.map_none, up_same, uTuple, uList, uSet, atI_zero, atI_one, ixN_20, ixN_zero, List.set_cons_zero, uPow, t3__law_refusals, trG, C3]
  refine l__law_refusals (G0 := G23) (ds := [(v3, [.ref p1, .ref p2, .ref p3, .ref p4, .ref p5, .ref p6, .ref p7, .ref p8, .ref p9, .ref p10, .ref p11])]) (show depsOk _ [(v3, [.ref p1, .ref p2, .ref p3, .ref p4, .ref p5, .ref p6, .ref p7, .ref p8, .ref p9, .ref p10, .ref p11])] from ⟨C3, trivial⟩) _ (fun o8 o9 G9 l9 => ?_) _ none none G23 (.refl _) (fun u hu => ?_)
  · simp only [trSs, trS, trE, trT, trX, pl, trA, trO, trC, trI, uBin_s, uUn_s, uVar_s, uC_s, getS, setS, uOp, uAdd, uSub, uMul, uDiv, uMod, uPow, uNeg, uCmp, uEqF, uLt, uLe, uGt, uGe, uIsF, isNonU, uTru, Blt.fn, uLen, uAbs, uMax2, uMin2, uInt, uIx, startU, gam_fn, gam_gl, tab_xcs, tab_sub, UD_nx, UD_rt, UD_bk, UD_ct, UD_ex, spAt, glAt, gls, seqOf, List.map_cons, List.map_nil, List.cons_append, List.nil_append, List.length_cons, List.length_nil, List.replicate, Nat.reduceAdd, Nat.reduceSub, Nat.zero_add, reduceIte, Bool.false_eq_true, Bool.true_eq_false, Bool.false_bne, Bool.true_bne, Bool.not_true, Bool.not_false, Bool.not_not, List.reverse_cons, List.reverse_nil, Option.map_some, Option.map_none, up_same, uTuple, uList, uSet, atI_zero, atI_one, ixN_20, ixN_zero, List.set_cons_zero, uPow, t2__law_refusals]
    exact fin.of (q G9)
  · simp only [List.mem_cons, List.mem_nil_iff, or_false] at hu
    rcases hu with rfl | rfl | rfl | rfl | rfl | rfl | rfl | rfl | rfl | rfl | rfl
    · exact A1
    · exact A2
    · exact A3
    · exact A4
    · exact A5
    · exact A6
    · exact A7
    · exact A8
    · exact A9
    · exact A10
    · exact A11
end K71
set_option Elab.async false
set_option linter.all false
set_option autoImplicit false
set_option maxRecDepth 100000
set_option maxHeartbeats 4000000
namespace K71
open PySem PySem.Spec L2 UL
/-! ### law -/
def spLaw : USp := fun us G Q _ => ∃ ns : List Int, us = [.rol (ns.map U.int)] ∧ ns.length ≤ 63 ∧ ∀ G', Q (.bl true) G'
def cl_law : List (Str × USp) := [("_law_purse", sp__law_purse), ("_law_refusals", sp__law_refusals), ("_law_steady", sp__law_steady), ("_law_places", sp__law_places)]
theorem w_law (us : List U) (G : UH) (Q : UK) (E : UXn → UH → Prop) (h : spLaw us G Q E) : trSs (TB cl_law) (GM cl_law) b_law (UD Q E) (startU n_law us) G := by
  obtain ⟨ns, rfl, hn, q⟩ := h
  simp only [trSs, trS, trE, trT, trX, pl, trA, trO, trC, trI, uBin_s, uUn_s, uVar_s, uC_s, getS, setS, uOp, uAdd, uSub, uMul, uDiv, uMod, uPow, uNeg, uCmp, uEqF, uLt, uLe, uGt, uGe, uIsF, isNonU, uTru, Blt.fn, uLen, uAbs, uMax2, uMin2, uInt, uIx, startU, gam_fn, gam_gl, tab_xcs, tab_sub, UD_nx, UD_rt, UD_bk, UD_ct, UD_ex, spAt, glAt, gls, seqOf, List.map_cons, List.map_nil, List.cons_append, List.nil_append, List.length_cons, List.length_nil, List.replicate, Nat.reduceAdd, Nat.reduceSub, Nat.zero_add, reduceIte, Bool.false_eq_true, Bool.true_eq_false, Bool.false_bne, Bool.true_bne, Bool.not_true, Bool.not_false, Bool.not_not, List.reverse_cons, List.reverse_nil, Option.map_some, Option.map_none, up_same, uTuple, uList, uSet, atI_zero, atI_one, ixN_20, ixN_zero, List.set_cons_zero, uPow, b_law, n_law, trG, cl_law]
  refine ⟨ns, rfl, hn, fun p g G1 hP l1 => ?_⟩
  simp only [trSs, trS, trE, trT, trX, pl, trA, trO, trC, trI, uBin_s, uUn_s, uVar_s, uC_s, getS, setS, uOp, uAdd, uSub, uMul, uDiv, uMod, uPow, uNeg, uCmp, uEqF, uLt, uLe, uGt, uGe, uIsF, isNonU, uTru, Blt.fn, uLen, uAbs, uMax2, uMin2, uInt, uIx, startU, gam_fn, gam_gl, tab_xcs, tab_sub, UD_nx, UD_rt, UD_bk, UD_ct, UD_ex, spAt, glAt, gls, seqOf, List.map_cons, List.map_nil, List.cons_append, List.nil_append, List.length_cons, List.length_nil, List.replicate, Nat.reduceAdd, Nat.reduceSub, Nat.zero_add, reduceIte, Bool.false_eq_true, Bool.true_eq_false, Bool.false_bne, Bool.true_bne, Bool.not_true, Bool.not_false, Bool.not_not, List.reverse_cons, List.reverse_nil, Option.map_some, Option.map_none, up_same, uTuple, uList, uSet, atI_zero, atI_one, ixN_20, ixN_zero, List.set_cons_zero, uPow, t1_law, cl_law]
  refine ⟨p, g, rfl, hP, fun G2 hP2 => ?_⟩
  simp only [trSs, trS, trE, trT, trX, pl, trA, trO, trC, trI, uBin_s, uUn_s, uVar_s, uC_s, getS, setS, uOp, uAdd, uSub, uMul, uDiv, uMod, uPow, uNeg, uCmp, uEqF, uLt, uLe, uGt, uGe, uIsF, isNonU, uTru, Blt.fn, uLen, uAbs, uMax2, uMin2, uInt, uIx, startU, gam_fn, gam_gl, tab_xcs, tab_sub, UD_nx, UD_rt, UD_bk, UD_ct, UD_ex, spAt, glAt, gls, seqOf, List.map_cons, List.map_nil, List.cons_append, List.nil_append, List.length_cons, List.length_nil, List.replicate, Nat.reduceAdd, Nat.reduceSub, Nat.zero_add, reduceIte, Bool.false_eq_true, Bool.true_eq_false, Bool.false_bne, Bool.true_bne, Bool.not_true, Bool.not_false, Bool.not_not, List.reverse_cons, List.reverse_nil, Option.map_some, Option.map_none, up_same, uTuple, uList, uSet, atI_zero, atI_one, ixN_20, ixN_zero, List.set_cons_zero, uPow]
  refine ⟨p, g, rfl, hP2, fun G3 hP3 => ?_⟩
  simp only [trSs, trS, trE, trT, trX, pl, trA, trO, trC, trI, uBin_s, uUn_s, uVar_s, uC_s, getS, setS, uOp, uAdd, uSub, uMul, uDiv, uMod, uPow, uNeg, uCmp, uEqF, uLt, uLe, uGt, uGe, uIsF, isNonU, uTru, Blt.fn, uLen, uAbs, uMax2, uMin2, uInt, uIx, startU, gam_fn, gam_gl, tab_xcs, tab_sub, UD_nx, UD_rt, UD_bk, UD_ct, UD_ex, spAt, glAt, gls, seqOf, List.map_cons, List.map_nil, List.cons_append, List.nil_append, List.length_cons, List.length_nil, List.replicate, Nat.reduceAdd, Nat.reduceSub, Nat.zero_add, reduceIte, Bool.false_eq_true, Bool.true_eq_false, Bool.false_bne, Bool.true_bne, Bool.not_true, Bool.not_false, Bool.not_not, List.reverse_cons, List.reverse_nil, Option.map_some, Option.map_none, up_same, uTuple, uList, uSet, atI_zero, atI_one, ixN_20, ixN_zero, List.set_cons_zero, uPow]
  exact ⟨p, g, rfl, hP3, fun G4 => fin.of (q G4)⟩
end K71
set_option Elab.async false
set_option linter.all false
set_option autoImplicit false
set_option maxRecDepth 100000
set_option maxHeartbeats 0
/-! the head (written by mkhead.py) -/
namespace K71
open PySem PySem.Spec PyProof.Rows L2 UL
def d_is_integer : He.DefD := ⟨("is_integer", none), "is_integer", "is_integer", defArgs s_is_integer, defBody s_is_integer, defScope s_is_integer, [], []⟩
def d_is_worth : He.DefD := ⟨("is_worth", none), "is_worth", "is_worth", defArgs s_is_worth, defBody s_is_worth, defScope s_is_worth, [], []⟩
def d_is_sound : He.DefD := ⟨("is_sound", none), "is_sound", "is_sound", defArgs s_is_sound, defBody s_is_sound, defScope s_is_sound, [], []⟩
def d_is_mode : He.DefD := ⟨("is_mode", none), "is_mode", "is_mode", defArgs s_is_mode, defBody s_is_mode, defScope s_is_mode, [], []⟩
def d__look_spread : He.DefD := ⟨("_look_spread", none), "_look_spread", "_look_spread", defArgs s__look_spread, defBody s__look_spread, defScope s__look_spread, [], []⟩
def d_spread : He.DefD := ⟨("spread", none), "spread", "spread", defArgs s_spread, defBody s_spread, defScope s_spread, [], []⟩
def d_kept_each : He.DefD := ⟨("kept_each", none), "kept_each", "kept_each", defArgs s_kept_each, defBody s_kept_each, defScope s_kept_each, [], []⟩
def d_clip : He.DefD := ⟨("clip", none), "clip", "clip", defArgs s_clip, defBody s_clip, defScope s_clip, [], []⟩
def d_turned : He.DefD := ⟨("turned", none), "turned", "turned", defArgs s_turned, defBody s_turned, defScope s_turned, [], []⟩
def d__resample_rates : He.DefD := ⟨("_resample_rates", none), "_resample_rates", "_resample_rates", defArgs s__resample_rates, defBody s__resample_rates, defScope s__resample_rates, [], []⟩
def d__resample_sum : He.DefD := ⟨("_resample_sum", none), "_resample_sum", "_resample_sum", defArgs s__resample_sum, defBody s__resample_sum, defScope s__resample_sum, [], []⟩
def d_resampled : He.DefD := ⟨("resampled", none), "resampled", "resampled", defArgs s_resampled, defBody s_resampled, defScope s_resampled, [], []⟩
def d__rate_divisor : He.DefD := ⟨("_rate_divisor", none), "_rate_divisor", "_rate_divisor", defArgs s__rate_divisor, defBody s__rate_divisor, defScope s__rate_divisor, [], []⟩
def d_steady : He.DefD := ⟨("steady", none), "steady", "steady", defArgs s_steady, defBody s_steady, defScope s_steady, [], []⟩
def d__law_purse : He.DefD := ⟨("_law_purse", none), "_law_purse", "_law_purse", defArgs s__law_purse, defBody s__law_purse, defScope s__law_purse, [], []⟩
def d__law_pick : He.DefD := ⟨("_law_pick", none), "_law_pick", "_law_pick", defArgs s__law_pick, defBody s__law_pick, defScope s__law_pick, [], []⟩
def d__law_worth : He.DefD := ⟨("_law_worth", none), "_law_worth", "_law_worth", defArgs s__law_worth, defBody s__law_worth, defScope s__law_worth, [], []⟩
def d__law_common : He.DefD := ⟨("_law_common", none), "_law_common", "_law_common", defArgs s__law_common, defBody s__law_common, defScope s__law_common, [], []⟩
def d__law_pair : He.DefD := ⟨("_law_pair", none), "_law_pair", "_law_pair", defArgs s__law_pair, defBody s__law_pair, defScope s__law_pair, [], []⟩
def d__law_spread : He.DefD := ⟨("_law_spread", none), "_law_spread", "_law_spread", defArgs s__law_spread, defBody s__law_spread, defScope s__law_spread, [], []⟩
def d__law_kept : He.DefD := ⟨("_law_kept", none), "_law_kept", "_law_kept", defArgs s__law_kept, defBody s__law_kept, defScope s__law_kept, [], []⟩
def d__law_is_sound : He.DefD := ⟨("_law_is_sound", none), "_law_is_sound", "_law_is_sound", defArgs s__law_is_sound, defBody s__law_is_sound, defScope s__law_is_sound, [], []⟩
def d__law_both : He.DefD := ⟨("_law_both", none), "_law_both", "_law_both", defArgs s__law_both, defBody s__law_both, defScope s__law_both, [], []⟩
def d__law_places : He.DefD := ⟨("_law_places", none), "_law_places", "_law_places", defArgs s__law_places, defBody s__law_places, defScope s__law_places, [], []⟩
def d__law_weights : He.DefD := ⟨("_law_weights", none), "_law_weights", "_law_weights", defArgs s__law_weights, defBody s__law_weights, defScope s__law_weights, [], []⟩
def d__law_bins : He.DefD := ⟨("_law_bins", none), "_law_bins", "_law_bins", defArgs s__law_bins, defBody s__law_bins, defScope s__law_bins, [], []⟩
def d__law_constant : He.DefD := ⟨("_law_constant", none), "_law_constant", "_law_constant", defArgs s__law_constant, defBody s__law_constant, defScope s__law_constant, [], []⟩
def d__law_steady : He.DefD := ⟨("_law_steady", none), "_law_steady", "_law_steady", defArgs s__law_steady, defBody s__law_steady, defScope s__law_steady, [], []⟩
def d__law_refused : He.DefD := ⟨("_law_refused", none), "_law_refused", "_law_refused", defArgs s__law_refused, defBody s__law_refused, defScope s__law_refused, [], []⟩
def d__law_refusals : He.DefD := ⟨("_law_refusals", none), "_law_refusals", "_law_refusals", defArgs s__law_refusals, defBody s__law_refusals, defScope s__law_refusals, [], []⟩
def d_law : He.DefD := ⟨("law", none), "law", "law", defArgs s_law, defBody s_law, defScope s_law, [], []⟩
abbrev s_NotUsable_init : Stmt := inClass (top 3) 0
def d_NotUsable_init : He.DefD := ⟨("NotUsable", some "__init__"), "__init__", "NotUsable.__init__", defArgs s_NotUsable_init, defBody s_NotUsable_init, defScope s_NotUsable_init, [], []⟩
def fn : List He.DefD := [d_is_integer, d_is_worth, d_is_sound, d_is_mode, d__look_spread, d_spread, d_kept_each, d_clip, d_turned, d__resample_rates, d__resample_sum, d_resampled, d__rate_divisor, d_steady, d__law_purse, d__law_pick, d__law_worth, d__law_common, d__law_pair, d__law_spread, d__law_kept, d__law_is_sound, d__law_both, d__law_places, d__law_weights, d__law_bins, d__law_constant, d__law_steady, d__law_refused, d__law_refusals, d_law, d_NotUsable_init]
def fa0 : List He.Fa := [.glo "is_integer", .glo "is_worth", .glo "is_sound", .glo "is_mode", .glo "_look_spread", .glo "spread", .glo "kept_each", .glo "clip", .glo "turned", .glo "_resample_rates", .glo "_resample_sum", .glo "resampled", .glo "_rate_divisor", .glo "steady", .glo "_law_purse", .glo "_law_pick", .glo "_law_worth", .glo "_law_common", .glo "_law_pair", .glo "_law_spread", .glo "_law_kept", .glo "_law_is_sound", .glo "_law_both", .glo "_law_places", .glo "_law_weights", .glo "_law_bins", .glo "_law_constant", .glo "_law_steady", .glo "_law_refused", .glo "_law_refusals", .glo "law", .glo "NotUsable", .exm "NotUsable" "NotUsable" true, .int "TOP" 1048575]
def fa : List He.Fa := fa0 ++ bltNames.map fun (x : Str) => .free x
def ex (K : PySem.W.Frag) : Bool := xcs.all (xcB K)
def loose : List Str := (["SoundError", "UseError", "NotUsable", "TOP", "is_integer", "is_worth", "is_sound", "is_mode", "_look_spread", "spread", "kept_each", "clip", "turned", "_resample_rates", "_resample_sum", "resampled", "_rate_divisor", "steady", "_law_purse", "_law_pick", "_law_worth", "_law_common", "_law_pair", "_law_spread", "_law_kept", "_law_is_sound", "_law_both", "_law_places", "_law_weights", "_law_bins"] : List Str) ++ (["_law_constant", "_law_steady", "_law_refused", "_law_refusals"] : List Str)
abbrev R : PySem.W.OpenRow := PySem.W.OpenLaw.row PySem.Challenge.rw_samesamples_k71_whole_change_places_and
abbrev hk : PySem.W.Hook := hookU 5 fa fn ex
def ob (s : PySem.W.SharedT) : AlU := obsU 5 fa fn ex (HandSHeadRun.getT s)
theorem ob_eq (s : PySem.W.SharedT) : ob s = hk.obs s.abs := obsU_eq (HandSHeadRun.getT_eq s)
theorem run (w : World) : HandSHeadRun.RunEq R (PySem.W.view R.prog [40]) hk ob 4000 loose w := by
  intro os
  kernel_rfl
end K71
set_option Elab.async false
set_option linter.all false
set_option autoImplicit false
set_option maxRecDepth 100000
set_option maxHeartbeats 4000000
/-! the defs keep their promises; the end (written by mkav.py) -/
namespace K71
open PySem PySem.Spec PyProof.Rows L2 UL
section
variable {P : Program} {w : World} {K : PySem.W.Frag} {mg : Str → Option Value} {base : Heap} {h : Heap} (X : K.In h) (G : h.Ns mainGlobals mg) (c : He.SaysD fa fn K) (cx : ex K = true)
include X G c cx
theorem avx_NotUsable : AvX P w K mg base 1 "NotUsable" ["at", "word"] := by
  obtain ⟨fd, F⟩ := c.def_ 31 (d := d_NotUsable_init) rfl
  have Y := xc_of (List.all_eq_true.mp cx ("NotUsable", ["at", "word"]) (by decide +kernel))
  have S : FnScope ["self", "word", "at"] ["self", "word", "at"] (defScope s_NotUsable_init) := ⟨rfl, rfl, rfl, by decide +kernel, rfl, by decide +kernel, by decide +kernel⟩
  have b : Binds K fd ["self", "word", "at"] [] := FunD.bindsN F fun _ _ _ _ _ _ us hl => match us, hl with | [_, _, _], _ => rfl
  exact avx2 (k := 0) (st := s_NotUsable_init) (He.glo_ok X G (c.fact 31 (f := .glo "NotUsable") rfl)) (by decide +kernel) Y.c Y.o Y.i Y.t (funD_fun F) b S rfl (by decide +kernel) (by decide +kernel) (by decide +kernel) (by decide +kernel) (by decide +kernel) (by decide +kernel) (by decide +kernel)
theorem wd : Wd P w K mg base xcs sub gls 1 where
  gls := fun p hp => by
    unfold gls at hp
    simp only [List.mem_cons, List.mem_nil_iff, or_false] at hp
    rcases hp with rfl
    · obtain ⟨t, e⟩ := He.int_ok X G (c.fact 33 (f := .int "TOP" 1048575) rfl)
      exact ⟨_, V.int _, e, ⟨_, rfl⟩, fun H => .int _, by decide +kernel⟩
  blt := fun x hx => by
    obtain ⟨i, hi⟩ := List.getElem?_of_mem hx
    refine He.free_ok X G (c.fact (34 + i) (f := .free x) ?_)
    have l0 : fa0.length = 34 := rfl
    unfold fa
    rw [List.getElem?_append_right (by omega), l0, Nat.add_sub_cancel_left, List.getElem?_map, hi]
    rfl
  xc := fun p hp => by
    unfold xcs at hp
    simp only [List.mem_cons, List.mem_nil_iff, or_false] at hp
    rcases hp with rfl
    · exact avx_NotUsable X G c cx
  sub := fun i j x y fs gs C D h1 h2 h3 h4 => by
    have g_NotUsable := He.glo_ok X G (c.fact 31 (f := .glo "NotUsable") rfl)
    have hi : i < 1 := (List.getElem?_eq_some_iff.mp h1).1
    have hj : j < 1 := (List.getElem?_eq_some_iff.mp h2).1
    have hij : (i = 0 ∧ j = 0) := by omega
    rcases hij with ⟨rfl, rfl⟩
    · cases h1; cases h2
      have e3 := g_NotUsable.symm.trans h3; have e4 := g_NotUsable.symm.trans h4
      cases e3; cases e4
      exact He.exm_ok (c.fact 32 (f := .exm "NotUsable" "NotUsable" true) rfl)
theorem av_is_integer : Av P w K mg base xcs 3 "is_integer" sp_is_integer := by
  obtain ⟨fd, F⟩ := c.def_ 0 (d := d_is_integer) rfl
  have S : FnScope n_is_integer p_is_integer (defScope s_is_integer) := ⟨rfl, rfl, rfl, by decide +kernel, rfl, by decide +kernel, by decide +kernel⟩
  refine def_av (k := 1) (cl := cl_is_integer) (st := s_is_integer) ((wd X G c cx).mono (by decide)) (fun p hp => ?_) (funD_fun F) (He.glo_ok X G (c.fact 0 (f := .glo "is_integer") rfl)) (FunD.bindsN F fun _ _ _ _ _ _ us hl => match us, hl with | [_], _ => rfl) (by decide +kernel) S c_is_integer (fun us G Q E h => ?_) w_is_integer
  · cases hp
  · first | (obtain ⟨rfl, _⟩ := h; rfl) | (obtain ⟨_, rfl, _⟩ := h; rfl) | (obtain ⟨_, _, rfl, _⟩ := h; rfl) | (obtain ⟨_, _, _, rfl, _⟩ := h; rfl) | (obtain ⟨_, _, _, _, rfl, _⟩ := h; rfl) | (obtain ⟨_, _, _, _, _, rfl, _⟩ := h; rfl) | (obtain ⟨_, _, _, _, _, _, rfl, _⟩ := h; rfl) | (obtain ⟨_, _, _, _, _, _, _, rfl, _⟩ := h; rfl)
theorem av_is_mode : Av P w K mg base xcs 3 "is_mode" sp_is_mode := by
  obtain ⟨fd, F⟩ := c.def_ 3 (d := d_is_mode) rfl
  have S : FnScope n_is_mode p_is_mode (defScope s_is_mode) := ⟨rfl, rfl, rfl, by decide +kernel, rfl, by decide +kernel, by decide +kernel⟩
  refine def_av (k := 1) (cl := cl_is_mode) (st := s_is_mode) ((wd X G c cx).mono (by decide)) (fun p hp => ?_) (funD_fun F) (He.glo_ok X G (c.fact 3 (f := .glo "is_mode") rfl)) (FunD.bindsN F fun _ _ _ _ _ _ us hl => match us, hl with | [_], _ => rfl) (by decide +kernel) S c_is_mode (fun us G Q E h => ?_) w_is_mode
  · cases hp
  · first | (obtain ⟨rfl, _⟩ := h; rfl) | (obtain ⟨_, rfl, _⟩ := h; rfl) | (obtain ⟨_, _, rfl, _⟩ := h; rfl) | (obtain ⟨_, _, _, rfl, _⟩ := h; rfl) | (obtain ⟨_, _, _, _, rfl, _⟩ := h; rfl) | (obtain ⟨_, _, _, _, _, rfl, _⟩ := h; rfl) | (obtain ⟨_, _, _, _, _, _, rfl, _⟩ := h; rfl) | (obtain ⟨_, _, _, _, _, _, _, rfl, _⟩ := h; rfl)
theorem av__rate_divisor : Av P w K mg base xcs 3 "_rate_divisor" sp__rate_divisor := by
  obtain ⟨fd, F⟩ := c.def_ 12 (d := d__rate_divisor) rfl
  have S : FnScope n__rate_divisor p__rate_divisor (defScope s__rate_divisor) := ⟨rfl, rfl, rfl, by decide +kernel, rfl, by decide +kernel, by decide +kernel⟩
  refine def_av (k := 1) (cl := cl__rate_divisor) (st := s__rate_divisor) ((wd X G c cx).mono (by decide)) (fun p hp => ?_) (funD_fun F) (He.glo_ok X G (c.fact 12 (f := .glo "_rate_divisor") rfl)) (FunD.bindsN F fun _ _ _ _ _ _ us hl => match us, hl with | [_, _], _ => rfl) (by decide +kernel) S c__rate_divisor (fun us G Q E h => ?_) w__rate_divisor
  · cases hp
  · first | (obtain ⟨rfl, _⟩ := h; rfl) | (obtain ⟨_, rfl, _⟩ := h; rfl) | (obtain ⟨_, _, rfl, _⟩ := h; rfl) | (obtain ⟨_, _, _, rfl, _⟩ := h; rfl) | (obtain ⟨_, _, _, _, rfl, _⟩ := h; rfl) | (obtain ⟨_, _, _, _, _, rfl, _⟩ := h; rfl) | (obtain ⟨_, _, _, _, _, _, rfl, _⟩ := h; rfl) | (obtain ⟨_, _, _, _, _, _, _, rfl, _⟩ := h; rfl)
theorem av__law_purse : Av P w K mg base xcs 3 "_law_purse" sp__law_purse := by
  obtain ⟨fd, F⟩ := c.def_ 14 (d := d__law_purse) rfl
  have S : FnScope n__law_purse p__law_purse (defScope s__law_purse) := ⟨rfl, rfl, rfl, by decide +kernel, rfl, by decide +kernel, by decide +kernel⟩
  refine def_av (k := 1) (cl := cl__law_purse) (st := s__law_purse) ((wd X G c cx).mono (by decide)) (fun p hp => ?_) (funD_fun F) (He.glo_ok X G (c.fact 14 (f := .glo "_law_purse") rfl)) (FunD.bindsN F fun _ _ _ _ _ _ us hl => match us, hl with | [_], _ => rfl) (by decide +kernel) S c__law_purse (fun us G Q E h => ?_) w__law_purse
  · cases hp
  · first | (obtain ⟨rfl, _⟩ := h; rfl) | (obtain ⟨_, rfl, _⟩ := h; rfl) | (obtain ⟨_, _, rfl, _⟩ := h; rfl) | (obtain ⟨_, _, _, rfl, _⟩ := h; rfl) | (obtain ⟨_, _, _, _, rfl, _⟩ := h; rfl) | (obtain ⟨_, _, _, _, _, rfl, _⟩ := h; rfl) | (obtain ⟨_, _, _, _, _, _, rfl, _⟩ := h; rfl) | (obtain ⟨_, _, _, _, _, _, _, rfl, _⟩ := h; rfl)
theorem av__law_pick : Av P w K mg base xcs 3 "_law_pick" sp__law_pick := by
  obtain ⟨fd, F⟩ := c.def_ 15 (d := d__law_pick) rfl
  have S : FnScope n__law_pick p__law_pick (defScope s__law_pick) := ⟨rfl, rfl, rfl, by decide +kernel, rfl, by decide +kernel, by decide +kernel⟩
  refine def_av (k := 1) (cl := cl__law_pick) (st := s__law_pick) ((wd X G c cx).mono (by decide)) (fun p hp => ?_) (funD_fun F) (He.glo_ok X G (c.fact 15 (f := .glo "_law_pick") rfl)) (FunD.bindsN F fun _ _ _ _ _ _ us hl => match us, hl with | [_, _], _ => rfl) (by decide +kernel) S c__law_pick (fun us G Q E h => ?_) w__law_pick
  · cases hp
  · first | (obtain ⟨rfl, _⟩ := h; rfl) | (obtain ⟨_, rfl, _⟩ := h; rfl) | (obtain ⟨_, _, rfl, _⟩ := h; rfl) | (obtain ⟨_, _, _, rfl, _⟩ := h; rfl) | (obtain ⟨_, _, _, _, rfl, _⟩ := h; rfl) | (obtain ⟨_, _, _, _, _, rfl, _⟩ := h; rfl) | (obtain ⟨_, _, _, _, _, _, rfl, _⟩ := h; rfl) | (obtain ⟨_, _, _, _, _, _, _, rfl, _⟩ := h; rfl)
theorem av__law_common : Av P w K mg base xcs 3 "_law_common" sp__law_common := by
  obtain ⟨fd, F⟩ := c.def_ 17 (d := d__law_common) rfl
  have S : FnScope n__law_common p__law_common (defScope s__law_common) := ⟨rfl, rfl, rfl, by decide +kernel, rfl, by decide +kernel, by decide +kernel⟩
  refine def_av (k := 1) (cl := cl__law_common) (st := s__law_common) ((wd X G c cx).mono (by decide)) (fun p hp => ?_) (funD_fun F) (He.glo_ok X G (c.fact 17 (f := .glo "_law_common") rfl)) (FunD.bindsN F fun _ _ _ _ _ _ us hl => match us, hl with | [_, _], _ => rfl) (by decide +kernel) S c__law_common (fun us G Q E h => ?_) w__law_common
  · cases hp
  · first | (obtain ⟨rfl, _⟩ := h; rfl) | (obtain ⟨_, rfl, _⟩ := h; rfl) | (obtain ⟨_, _, rfl, _⟩ := h; rfl) | (obtain ⟨_, _, _, rfl, _⟩ := h; rfl) | (obtain ⟨_, _, _, _, rfl, _⟩ := h; rfl) | (obtain ⟨_, _, _, _, _, rfl, _⟩ := h; rfl) | (obtain ⟨_, _, _, _, _, _, rfl, _⟩ := h; rfl) | (obtain ⟨_, _, _, _, _, _, _, rfl, _⟩ := h; rfl)
theorem av__law_spread : Av P w K mg base xcs 3 "_law_spread" sp__law_spread := by
  obtain ⟨fd, F⟩ := c.def_ 19 (d := d__law_spread) rfl
  have S : FnScope n__law_spread p__law_spread (defScope s__law_spread) := ⟨rfl, rfl, rfl, by decide +kernel, rfl, by decide +kernel, by decide +kernel⟩
  refine def_av (k := 1) (cl := cl__law_spread) (st := s__law_spread) ((wd X G c cx).mono (by decide)) (fun p hp => ?_) (funD_fun F) (He.glo_ok X G (c.fact 19 (f := .glo "_law_spread") rfl)) (FunD.bindsN F fun _ _ _ _ _ _ us hl => match us, hl with | [_, _], _ => rfl) (by decide +kernel) S c__law_spread (fun us G Q E h => ?_) w__law_spread
  · cases hp
  · first | (obtain ⟨rfl, _⟩ := h; rfl) | (obtain ⟨_, rfl, _⟩ := h; rfl) | (obtain ⟨_, _, rfl, _⟩ := h; rfl) | (obtain ⟨_, _, _, rfl, _⟩ := h; rfl) | (obtain ⟨_, _, _, _, rfl, _⟩ := h; rfl) | (obtain ⟨_, _, _, _, _, rfl, _⟩ := h; rfl) | (obtain ⟨_, _, _, _, _, _, rfl, _⟩ := h; rfl) | (obtain ⟨_, _, _, _, _, _, _, rfl, _⟩ := h; rfl)
theorem av__law_kept : Av P w K mg base xcs 3 "_law_kept" sp__law_kept := by
  obtain ⟨fd, F⟩ := c.def_ 20 (d := d__law_kept) rfl
  have S : FnScope n__law_kept p__law_kept (defScope s__law_kept) := ⟨rfl, rfl, rfl, by decide +kernel, rfl, by decide +kernel, by decide +kernel⟩
  refine def_av (k := 1) (cl := cl__law_kept) (st := s__law_kept) ((wd X G c cx).mono (by decide)) (fun p hp => ?_) (funD_fun F) (He.glo_ok X G (c.fact 20 (f := .glo "_law_kept") rfl)) (FunD.bindsN F fun _ _ _ _ _ _ us hl => match us, hl with | [_, _], _ => rfl) (by decide +kernel) S c__law_kept (fun us G Q E h => ?_) w__law_kept
  · cases hp
  · first | (obtain ⟨rfl, _⟩ := h; rfl) | (obtain ⟨_, rfl, _⟩ := h; rfl) | (obtain ⟨_, _, rfl, _⟩ := h; rfl) | (obtain ⟨_, _, _, rfl, _⟩ := h; rfl) | (obtain ⟨_, _, _, _, rfl, _⟩ := h; rfl) | (obtain ⟨_, _, _, _, _, rfl, _⟩ := h; rfl) | (obtain ⟨_, _, _, _, _, _, rfl, _⟩ := h; rfl) | (obtain ⟨_, _, _, _, _, _, _, rfl, _⟩ := h; rfl)
theorem av__law_is_sound : Av P w K mg base xcs 3 "_law_is_sound" sp__law_is_sound := by
  obtain ⟨fd, F⟩ := c.def_ 21 (d := d__law_is_sound) rfl
  have S : FnScope n__law_is_sound p__law_is_sound (defScope s__law_is_sound) := ⟨rfl, rfl, rfl, by decide +kernel, rfl, by decide +kernel, by decide +kernel⟩
  refine def_av (k := 1) (cl := cl__law_is_sound) (st := s__law_is_sound) ((wd X G c cx).mono (by decide)) (fun p hp => ?_) (funD_fun F) (He.glo_ok X G (c.fact 21 (f := .glo "_law_is_sound") rfl)) (FunD.bindsN F fun _ _ _ _ _ _ us hl => match us, hl with | [_, _], _ => rfl) (by decide +kernel) S c__law_is_sound (fun us G Q E h => ?_) w__law_is_sound
  · cases hp
  · first | (obtain ⟨rfl, _⟩ := h; rfl) | (obtain ⟨_, rfl, _⟩ := h; rfl) | (obtain ⟨_, _, rfl, _⟩ := h; rfl) | (obtain ⟨_, _, _, rfl, _⟩ := h; rfl) | (obtain ⟨_, _, _, _, rfl, _⟩ := h; rfl) | (obtain ⟨_, _, _, _, _, rfl, _⟩ := h; rfl) | (obtain ⟨_, _, _, _, _, _, rfl, _⟩ := h; rfl) | (obtain ⟨_, _, _, _, _, _, _, rfl, _⟩ := h; rfl)
theorem av__law_bins : Av P w K mg base xcs 3 "_law_bins" sp__law_bins := by
  obtain ⟨fd, F⟩ := c.def_ 25 (d := d__law_bins) rfl
  have S : FnScope n__law_bins p__law_bins (defScope s__law_bins) := ⟨rfl, rfl, rfl, by decide +kernel, rfl, by decide +kernel, by decide +kernel⟩
  refine def_av (k := 1) (cl := cl__law_bins) (st := s__law_bins) ((wd X G c cx).mono (by decide)) (fun p hp => ?_) (funD_fun F) (He.glo_ok X G (c.fact 25 (f := .glo "_law_bins") rfl)) (FunD.bindsN F fun _ _ _ _ _ _ us hl => match us, hl with | [_, _], _ => rfl) (by decide +kernel) S c__law_bins (fun us G Q E h => ?_) w__law_bins
  · cases hp
  · first | (obtain ⟨rfl, _⟩ := h; rfl) | (obtain ⟨_, rfl, _⟩ := h; rfl) | (obtain ⟨_, _, rfl, _⟩ := h; rfl) | (obtain ⟨_, _, _, rfl, _⟩ := h; rfl) | (obtain ⟨_, _, _, _, rfl, _⟩ := h; rfl) | (obtain ⟨_, _, _, _, _, rfl, _⟩ := h; rfl) | (obtain ⟨_, _, _, _, _, _, rfl, _⟩ := h; rfl) | (obtain ⟨_, _, _, _, _, _, _, rfl, _⟩ := h; rfl)
theorem av_is_worth : Av P w K mg base xcs 4 "is_worth" sp_is_worth := by
  obtain ⟨fd, F⟩ := c.def_ 1 (d := d_is_worth) rfl
  have S : FnScope n_is_worth p_is_worth (defScope s_is_worth) := ⟨rfl, rfl, rfl, by decide +kernel, rfl, by decide +kernel, by decide +kernel⟩
  refine def_av (k := 2) (cl := cl_is_worth) (st := s_is_worth) ((wd X G c cx).mono (by decide)) (fun p hp => ?_) (funD_fun F) (He.glo_ok X G (c.fact 1 (f := .glo "is_worth") rfl)) (FunD.bindsN F fun _ _ _ _ _ _ us hl => match us, hl with | [_], _ => rfl) (by decide +kernel) S c_is_worth (fun us G Q E h => ?_) w_is_worth
  · unfold cl_is_worth at hp
    simp only [List.mem_cons, List.mem_nil_iff, or_false] at hp
    rcases hp with rfl
    · exact (av_is_integer X G c cx).mono (by decide)
  · first | (obtain ⟨rfl, _⟩ := h; rfl) | (obtain ⟨_, rfl, _⟩ := h; rfl) | (obtain ⟨_, _, rfl, _⟩ := h; rfl) | (obtain ⟨_, _, _, rfl, _⟩ := h; rfl) | (obtain ⟨_, _, _, _, rfl, _⟩ := h; rfl) | (obtain ⟨_, _, _, _, _, rfl, _⟩ := h; rfl) | (obtain ⟨_, _, _, _, _, _, rfl, _⟩ := h; rfl) | (obtain ⟨_, _, _, _, _, _, _, rfl, _⟩ := h; rfl)
theorem av_clip : Av P w K mg base xcs 4 "clip" sp_clip := by
  obtain ⟨fd, F⟩ := c.def_ 7 (d := d_clip) rfl
  have S : FnScope n_clip p_clip (defScope s_clip) := ⟨rfl, rfl, rfl, by decide +kernel, rfl, by decide +kernel, by decide +kernel⟩
  refine def_av (k := 2) (cl := cl_clip) (st := s_clip) ((wd X G c cx).mono (by decide)) (fun p hp => ?_) (funD_fun F) (He.glo_ok X G (c.fact 7 (f := .glo "clip") rfl)) (FunD.bindsN F fun _ _ _ _ _ _ us hl => match us, hl with | [_], _ => rfl) (by decide +kernel) S c_clip (fun us G Q E h => ?_) w_clip
  · unfold cl_clip at hp
    simp only [List.mem_cons, List.mem_nil_iff, or_false] at hp
    rcases hp with rfl
    · exact (av_is_integer X G c cx).mono (by decide)
  · first | (obtain ⟨rfl, _⟩ := h; rfl) | (obtain ⟨_, rfl, _⟩ := h; rfl) | (obtain ⟨_, _, rfl, _⟩ := h; rfl) | (obtain ⟨_, _, _, rfl, _⟩ := h; rfl) | (obtain ⟨_, _, _, _, rfl, _⟩ := h; rfl) | (obtain ⟨_, _, _, _, _, rfl, _⟩ := h; rfl) | (obtain ⟨_, _, _, _, _, _, rfl, _⟩ := h; rfl) | (obtain ⟨_, _, _, _, _, _, _, rfl, _⟩ := h; rfl)
theorem av_turned : Av P w K mg base xcs 4 "turned" sp_turned := by
  obtain ⟨fd, F⟩ := c.def_ 8 (d := d_turned) rfl
  have S : FnScope n_turned p_turned (defScope s_turned) := ⟨rfl, rfl, rfl, by decide +kernel, rfl, by decide +kernel, by decide +kernel⟩
  refine def_av (k := 2) (cl := cl_turned) (st := s_turned) ((wd X G c cx).mono (by decide)) (fun p hp => ?_) (funD_fun F) (He.glo_ok X G (c.fact 8 (f := .glo "turned") rfl)) (FunD.bindsN F fun _ _ _ _ _ _ us hl => match us, hl with | [_, _, _], _ => rfl) (by decide +kernel) S c_turned (fun us G Q E h => ?_) w_turned
  · unfold cl_turned at hp
    simp only [List.mem_cons, List.mem_nil_iff, or_false] at hp
    rcases hp with rfl | rfl
    · exact (av_is_integer X G c cx).mono (by decide)
    · exact (av_is_mode X G c cx).mono (by decide)
  · first | (obtain ⟨rfl, _⟩ := h; rfl) | (obtain ⟨_, rfl, _⟩ := h; rfl) | (obtain ⟨_, _, rfl, _⟩ := h; rfl) | (obtain ⟨_, _, _, rfl, _⟩ := h; rfl) | (obtain ⟨_, _, _, _, rfl, _⟩ := h; rfl) | (obtain ⟨_, _, _, _, _, rfl, _⟩ := h; rfl) | (obtain ⟨_, _, _, _, _, _, rfl, _⟩ := h; rfl) | (obtain ⟨_, _, _, _, _, _, _, rfl, _⟩ := h; rfl)
theorem av__resample_rates : Av P w K mg base xcs 4 "_resample_rates" sp__resample_rates := by
  obtain ⟨fd, F⟩ := c.def_ 9 (d := d__resample_rates) rfl
  have S : FnScope n__resample_rates p__resample_rates (defScope s__resample_rates) := ⟨rfl, rfl, rfl, by decide +kernel, rfl, by decide +kernel, by decide +kernel⟩
  refine def_av (k := 2) (cl := cl__resample_rates) (st := s__resample_rates) ((wd X G c cx).mono (by decide)) (fun p hp => ?_) (funD_fun F) (He.glo_ok X G (c.fact 9 (f := .glo "_resample_rates") rfl)) (FunD.bindsN F fun _ _ _ _ _ _ us hl => match us, hl with | [_, _, _], _ => rfl) (by decide +kernel) S c__resample_rates (fun us G Q E h => ?_) w__resample_rates
  · unfold cl__resample_rates at hp
    simp only [List.mem_cons, List.mem_nil_iff, or_false] at hp
    rcases hp with rfl
    · exact (av_is_integer X G c cx).mono (by decide)
  · first | (obtain ⟨rfl, _⟩ := h; rfl) | (obtain ⟨_, rfl, _⟩ := h; rfl) | (obtain ⟨_, _, rfl, _⟩ := h; rfl) | (obtain ⟨_, _, _, rfl, _⟩ := h; rfl) | (obtain ⟨_, _, _, _, rfl, _⟩ := h; rfl) | (obtain ⟨_, _, _, _, _, rfl, _⟩ := h; rfl) | (obtain ⟨_, _, _, _, _, _, rfl, _⟩ := h; rfl) | (obtain ⟨_, _, _, _, _, _, _, rfl, _⟩ := h; rfl)
theorem av__law_worth : Av P w K mg base xcs 4 "_law_worth" sp__law_worth := by
  obtain ⟨fd, F⟩ := c.def_ 16 (d := d__law_worth) rfl
  have S : FnScope n__law_worth p__law_worth (defScope s__law_worth) := ⟨rfl, rfl, rfl, by decide +kernel, rfl, by decide +kernel, by decide +kernel⟩
  refine def_av (k := 2) (cl := cl__law_worth) (st := s__law_worth) ((wd X G c cx).mono (by decide)) (fun p hp => ?_) (funD_fun F) (He.glo_ok X G (c.fact 16 (f := .glo "_law_worth") rfl)) (FunD.bindsN F fun _ _ _ _ _ _ us hl => match us, hl with | [_], _ => rfl) (by decide +kernel) S c__law_worth (fun us G Q E h => ?_) w__law_worth
  · unfold cl__law_worth at hp
    simp only [List.mem_cons, List.mem_nil_iff, or_false] at hp
    rcases hp with rfl
    · exact (av__law_pick X G c cx).mono (by decide)
  · first | (obtain ⟨rfl, _⟩ := h; rfl) | (obtain ⟨_, rfl, _⟩ := h; rfl) | (obtain ⟨_, _, rfl, _⟩ := h; rfl) | (obtain ⟨_, _, _, rfl, _⟩ := h; rfl) | (obtain ⟨_, _, _, _, rfl, _⟩ := h; rfl) | (obtain ⟨_, _, _, _, _, rfl, _⟩ := h; rfl) | (obtain ⟨_, _, _, _, _, _, rfl, _⟩ := h; rfl) | (obtain ⟨_, _, _, _, _, _, _, rfl, _⟩ := h; rfl)
theorem av__law_pair : Av P w K mg base xcs 4 "_law_pair" sp__law_pair := by
  obtain ⟨fd, F⟩ := c.def_ 18 (d := d__law_pair) rfl
  have S : FnScope n__law_pair p__law_pair (defScope s__law_pair) := ⟨rfl, rfl, rfl, by decide +kernel, rfl, by decide +kernel, by decide +kernel⟩
  refine def_av (k := 2) (cl := cl__law_pair) (st := s__law_pair) ((wd X G c cx).mono (by decide)) (fun p hp => ?_) (funD_fun F) (He.glo_ok X G (c.fact 18 (f := .glo "_law_pair") rfl)) (FunD.bindsN F fun _ _ _ _ _ _ us hl => match us, hl with | [_], _ => rfl) (by decide +kernel) S c__law_pair (fun us G Q E h => ?_) w__law_pair
  · unfold cl__law_pair at hp
    simp only [List.mem_cons, List.mem_nil_iff, or_false] at hp
    rcases hp with rfl
    · exact (av__law_pick X G c cx).mono (by decide)
  · first | (obtain ⟨rfl, _⟩ := h; rfl) | (obtain ⟨_, rfl, _⟩ := h; rfl) | (obtain ⟨_, _, rfl, _⟩ := h; rfl) | (obtain ⟨_, _, _, rfl, _⟩ := h; rfl) | (obtain ⟨_, _, _, _, rfl, _⟩ := h; rfl) | (obtain ⟨_, _, _, _, _, rfl, _⟩ := h; rfl) | (obtain ⟨_, _, _, _, _, _, rfl, _⟩ := h; rfl) | (obtain ⟨_, _, _, _, _, _, _, rfl, _⟩ := h; rfl)
theorem av__law_weights : Av P w K mg base xcs 4 "_law_weights" sp__law_weights := by
  obtain ⟨fd, F⟩ := c.def_ 24 (d := d__law_weights) rfl
  have S : FnScope n__law_weights p__law_weights (defScope s__law_weights) := ⟨rfl, rfl, rfl, by decide +kernel, rfl, by decide +kernel, by decide +kernel⟩
  refine def_av (k := 2) (cl := cl__law_weights) (st := s__law_weights) ((wd X G c cx).mono (by decide)) (fun p hp => ?_) (funD_fun F) (He.glo_ok X G (c.fact 24 (f := .glo "_law_weights") rfl)) (FunD.bindsN F fun _ _ _ _ _ _ us hl => match us, hl with | [_, _, _], _ => rfl) (by decide +kernel) S c__law_weights (fun us G Q E h => ?_) w__law_weights
  · unfold cl__law_weights at hp
    simp only [List.mem_cons, List.mem_nil_iff, or_false] at hp
    rcases hp with rfl
    · exact (av__law_pick X G c cx).mono (by decide)
  · first | (obtain ⟨rfl, _⟩ := h; rfl) | (obtain ⟨_, rfl, _⟩ := h; rfl) | (obtain ⟨_, _, rfl, _⟩ := h; rfl) | (obtain ⟨_, _, _, rfl, _⟩ := h; rfl) | (obtain ⟨_, _, _, _, rfl, _⟩ := h; rfl) | (obtain ⟨_, _, _, _, _, rfl, _⟩ := h; rfl) | (obtain ⟨_, _, _, _, _, _, rfl, _⟩ := h; rfl) | (obtain ⟨_, _, _, _, _, _, _, rfl, _⟩ := h; rfl)
theorem av_is_sound : Av P w K mg base xcs 5 "is_sound" sp_is_sound := by
  obtain ⟨fd, F⟩ := c.def_ 2 (d := d_is_sound) rfl
  have S : FnScope n_is_sound p_is_sound (defScope s_is_sound) := ⟨rfl, rfl, rfl, by decide +kernel, rfl, by decide +kernel, by decide +kernel⟩
  refine def_av (k := 3) (cl := cl_is_sound) (st := s_is_sound) ((wd X G c cx).mono (by decide)) (fun p hp => ?_) (funD_fun F) (He.glo_ok X G (c.fact 2 (f := .glo "is_sound") rfl)) (FunD.bindsN F fun _ _ _ _ _ _ us hl => match us, hl with | [_], _ => rfl) (by decide +kernel) S c_is_sound (fun us G Q E h => ?_) w_is_sound
  · unfold cl_is_sound at hp
    simp only [List.mem_cons, List.mem_nil_iff, or_false] at hp
    rcases hp with rfl
    · exact (av_is_worth X G c cx).mono (by decide)
  · first | (obtain ⟨rfl, _⟩ := h; rfl) | (obtain ⟨_, rfl, _⟩ := h; rfl) | (obtain ⟨_, _, rfl, _⟩ := h; rfl) | (obtain ⟨_, _, _, rfl, _⟩ := h; rfl) | (obtain ⟨_, _, _, _, rfl, _⟩ := h; rfl) | (obtain ⟨_, _, _, _, _, rfl, _⟩ := h; rfl) | (obtain ⟨_, _, _, _, _, _, rfl, _⟩ := h; rfl) | (obtain ⟨_, _, _, _, _, _, _, rfl, _⟩ := h; rfl)
theorem av__resample_sum : Av P w K mg base xcs 5 "_resample_sum" sp__resample_sum := by
  obtain ⟨fd, F⟩ := c.def_ 10 (d := d__resample_sum) rfl
  have S : FnScope n__resample_sum p__resample_sum (defScope s__resample_sum) := ⟨rfl, rfl, rfl, by decide +kernel, rfl, by decide +kernel, by decide +kernel⟩
  refine def_av (k := 3) (cl := cl__resample_sum) (st := s__resample_sum) ((wd X G c cx).mono (by decide)) (fun p hp => ?_) (funD_fun F) (He.glo_ok X G (c.fact 10 (f := .glo "_resample_sum") rfl)) (FunD.bindsN F fun _ _ _ _ _ _ us hl => match us, hl with | [_, _, _, _, _], _ => rfl) (by decide +kernel) S c__resample_sum (fun us G Q E h => ?_) w__resample_sum
  · unfold cl__resample_sum at hp
    simp only [List.mem_cons, List.mem_nil_iff, or_false] at hp
    rcases hp with rfl | rfl
    · exact (av_clip X G c cx).mono (by decide)
    · exact (av_turned X G c cx).mono (by decide)
  · first | (obtain ⟨rfl, _⟩ := h; rfl) | (obtain ⟨_, rfl, _⟩ := h; rfl) | (obtain ⟨_, _, rfl, _⟩ := h; rfl) | (obtain ⟨_, _, _, rfl, _⟩ := h; rfl) | (obtain ⟨_, _, _, _, rfl, _⟩ := h; rfl) | (obtain ⟨_, _, _, _, _, rfl, _⟩ := h; rfl) | (obtain ⟨_, _, _, _, _, _, rfl, _⟩ := h; rfl) | (obtain ⟨_, _, _, _, _, _, _, rfl, _⟩ := h; rfl)
theorem av_steady : Av P w K mg base xcs 5 "steady" sp_steady := by
  obtain ⟨fd, F⟩ := c.def_ 13 (d := d_steady) rfl
  have S : FnScope n_steady p_steady (defScope s_steady) := ⟨rfl, rfl, rfl, by decide +kernel, rfl, by decide +kernel, by decide +kernel⟩
  refine def_av (k := 3) (cl := cl_steady) (st := s_steady) ((wd X G c cx).mono (by decide)) (fun p hp => ?_) (funD_fun F) (He.glo_ok X G (c.fact 13 (f := .glo "steady") rfl)) (FunD.bindsN F fun _ _ _ _ _ _ us hl => match us, hl with | [_, _, _], _ => rfl) (by decide +kernel) S c_steady (fun us G Q E h => ?_) w_steady
  · unfold cl_steady at hp
    simp only [List.mem_cons, List.mem_nil_iff, or_false] at hp
    rcases hp with rfl | rfl
    · exact (av__resample_rates X G c cx).mono (by decide)
    · exact (av__rate_divisor X G c cx).mono (by decide)
  · first | (obtain ⟨rfl, _⟩ := h; rfl) | (obtain ⟨_, rfl, _⟩ := h; rfl) | (obtain ⟨_, _, rfl, _⟩ := h; rfl) | (obtain ⟨_, _, _, rfl, _⟩ := h; rfl) | (obtain ⟨_, _, _, _, rfl, _⟩ := h; rfl) | (obtain ⟨_, _, _, _, _, rfl, _⟩ := h; rfl) | (obtain ⟨_, _, _, _, _, _, rfl, _⟩ := h; rfl) | (obtain ⟨_, _, _, _, _, _, _, rfl, _⟩ := h; rfl)
theorem av__look_spread : Av P w K mg base xcs 6 "_look_spread" sp__look_spread := by
  obtain ⟨fd, F⟩ := c.def_ 4 (d := d__look_spread) rfl
  have S : FnScope n__look_spread p__look_spread (defScope s__look_spread) := ⟨rfl, rfl, rfl, by decide +kernel, rfl, by decide +kernel, by decide +kernel⟩
  refine def_av (k := 4) (cl := cl__look_spread) (st := s__look_spread) ((wd X G c cx).mono (by decide)) (fun p hp => ?_) (funD_fun F) (He.glo_ok X G (c.fact 4 (f := .glo "_look_spread") rfl)) (FunD.bindsN F fun _ _ _ _ _ _ us hl => match us, hl with | [_, _], _ => rfl) (by decide +kernel) S c__look_spread (fun us G Q E h => ?_) w__look_spread
  · unfold cl__look_spread at hp
    simp only [List.mem_cons, List.mem_nil_iff, or_false] at hp
    rcases hp with rfl | rfl
    · exact (av_is_sound X G c cx).mono (by decide)
    · exact (av_is_integer X G c cx).mono (by decide)
  · first | (obtain ⟨rfl, _⟩ := h; rfl) | (obtain ⟨_, rfl, _⟩ := h; rfl) | (obtain ⟨_, _, rfl, _⟩ := h; rfl) | (obtain ⟨_, _, _, rfl, _⟩ := h; rfl) | (obtain ⟨_, _, _, _, rfl, _⟩ := h; rfl) | (obtain ⟨_, _, _, _, _, rfl, _⟩ := h; rfl) | (obtain ⟨_, _, _, _, _, _, rfl, _⟩ := h; rfl) | (obtain ⟨_, _, _, _, _, _, _, rfl, _⟩ := h; rfl)
theorem av_resampled : Av P w K mg base xcs 6 "resampled" sp_resampled := by
  obtain ⟨fd, F⟩ := c.def_ 11 (d := d_resampled) rfl
  have S : FnScope n_resampled p_resampled (defScope s_resampled) := ⟨rfl, rfl, rfl, by decide +kernel, rfl, by decide +kernel, by decide +kernel⟩
  refine def_av (k := 4) (cl := cl_resampled) (st := s_resampled) ((wd X G c cx).mono (by decide)) (fun p hp => ?_) (funD_fun F) (He.glo_ok X G (c.fact 11 (f := .glo "resampled") rfl)) (FunD.bindsN F fun _ _ _ _ _ _ us hl => match us, hl with | [_, _, _, _], _ => rfl) (by decide +kernel) S c_resampled (fun us G Q E h => ?_) w_resampled
  · unfold cl_resampled at hp
    simp only [List.mem_cons, List.mem_nil_iff, or_false] at hp
    rcases hp with rfl | rfl | rfl
    · exact (av_is_sound X G c cx).mono (by decide)
    · exact (av__resample_rates X G c cx).mono (by decide)
    · exact (av__resample_sum X G c cx).mono (by decide)
  · first | (obtain ⟨rfl, _⟩ := h; rfl) | (obtain ⟨_, rfl, _⟩ := h; rfl) | (obtain ⟨_, _, rfl, _⟩ := h; rfl) | (obtain ⟨_, _, _, rfl, _⟩ := h; rfl) | (obtain ⟨_, _, _, _, rfl, _⟩ := h; rfl) | (obtain ⟨_, _, _, _, _, rfl, _⟩ := h; rfl) | (obtain ⟨_, _, _, _, _, _, rfl, _⟩ := h; rfl) | (obtain ⟨_, _, _, _, _, _, _, rfl, _⟩ := h; rfl)
theorem av_spread : Av P w K mg base xcs 7 "spread" sp_spread := by
  obtain ⟨fd, F⟩ := c.def_ 5 (d := d_spread) rfl
  have S : FnScope n_spread p_spread (defScope s_spread) := ⟨rfl, rfl, rfl, by decide +kernel, rfl, by decide +kernel, by decide +kernel⟩
  refine def_av (k := 5) (cl := cl_spread) (st := s_spread) ((wd X G c cx).mono (by decide)) (fun p hp => ?_) (funD_fun F) (He.glo_ok X G (c.fact 5 (f := .glo "spread") rfl)) (FunD.bindsN F fun _ _ _ _ _ _ us hl => match us, hl with | [_, _], _ => rfl) (by decide +kernel) S c_spread (fun us G Q E h => ?_) w_spread
  · unfold cl_spread at hp
    simp only [List.mem_cons, List.mem_nil_iff, or_false] at hp
    rcases hp with rfl
    · exact (av__look_spread X G c cx).mono (by decide)
  · first | (obtain ⟨rfl, _⟩ := h; rfl) | (obtain ⟨_, rfl, _⟩ := h; rfl) | (obtain ⟨_, _, rfl, _⟩ := h; rfl) | (obtain ⟨_, _, _, rfl, _⟩ := h; rfl) | (obtain ⟨_, _, _, _, rfl, _⟩ := h; rfl) | (obtain ⟨_, _, _, _, _, rfl, _⟩ := h; rfl) | (obtain ⟨_, _, _, _, _, _, rfl, _⟩ := h; rfl) | (obtain ⟨_, _, _, _, _, _, _, rfl, _⟩ := h; rfl)
theorem av_kept_each : Av P w K mg base xcs 7 "kept_each" sp_kept_each := by
  obtain ⟨fd, F⟩ := c.def_ 6 (d := d_kept_each) rfl
  have S : FnScope n_kept_each p_kept_each (defScope s_kept_each) := ⟨rfl, rfl, rfl, by decide +kernel, rfl, by decide +kernel, by decide +kernel⟩
  refine def_av (k := 5) (cl := cl_kept_each) (st := s_kept_each) ((wd X G c cx).mono (by decide)) (fun p hp => ?_) (funD_fun F) (He.glo_ok X G (c.fact 6 (f := .glo "kept_each") rfl)) (FunD.bindsN F fun _ _ _ _ _ _ us hl => match us, hl with | [_, _], _ => rfl) (by decide +kernel) S c_kept_each (fun us G Q E h => ?_) w_kept_each
  · unfold cl_kept_each at hp
    simp only [List.mem_cons, List.mem_nil_iff, or_false] at hp
    rcases hp with rfl
    · exact (av__look_spread X G c cx).mono (by decide)
  · first | (obtain ⟨rfl, _⟩ := h; rfl) | (obtain ⟨_, rfl, _⟩ := h; rfl) | (obtain ⟨_, _, rfl, _⟩ := h; rfl) | (obtain ⟨_, _, _, rfl, _⟩ := h; rfl) | (obtain ⟨_, _, _, _, rfl, _⟩ := h; rfl) | (obtain ⟨_, _, _, _, _, rfl, _⟩ := h; rfl) | (obtain ⟨_, _, _, _, _, _, rfl, _⟩ := h; rfl) | (obtain ⟨_, _, _, _, _, _, _, rfl, _⟩ := h; rfl)
theorem av__law_constant : Av P w K mg base xcs 7 "_law_constant" sp__law_constant := by
  obtain ⟨fd, F⟩ := c.def_ 26 (d := d__law_constant) rfl
  have S : FnScope n__law_constant p__law_constant (defScope s__law_constant) := ⟨rfl, rfl, rfl, by decide +kernel, rfl, by decide +kernel, by decide +kernel⟩
  refine def_av (k := 5) (cl := cl__law_constant) (st := s__law_constant) ((wd X G c cx).mono (by decide)) (fun p hp => ?_) (funD_fun F) (He.glo_ok X G (c.fact 26 (f := .glo "_law_constant") rfl)) (FunD.bindsN F fun _ _ _ _ _ _ us hl => match us, hl with | [_, _, _, _, _], _ => rfl) (by decide +kernel) S c__law_constant (fun us G Q E h => ?_) w__law_constant
  · unfold cl__law_constant at hp
    simp only [List.mem_cons, List.mem_nil_iff, or_false] at hp
    rcases hp with rfl | rfl
    · exact (av__law_common X G c cx).mono (by decide)
    · exact (av_resampled X G c cx).mono (by decide)
  · first | (obtain ⟨rfl, _⟩ := h; rfl) | (obtain ⟨_, rfl, _⟩ := h; rfl) | (obtain ⟨_, _, rfl, _⟩ := h; rfl) | (obtain ⟨_, _, _, rfl, _⟩ := h; rfl) | (obtain ⟨_, _, _, _, rfl, _⟩ := h; rfl) | (obtain ⟨_, _, _, _, _, rfl, _⟩ := h; rfl) | (obtain ⟨_, _, _, _, _, _, rfl, _⟩ := h; rfl) | (obtain ⟨_, _, _, _, _, _, _, rfl, _⟩ := h; rfl)
theorem av__law_both : Av P w K mg base xcs 8 "_law_both" sp__law_both := by
  obtain ⟨fd, F⟩ := c.def_ 22 (d := d__law_both) rfl
  have S : FnScope n__law_both p__law_both (defScope s__law_both) := ⟨rfl, rfl, rfl, by decide +kernel, rfl, by decide +kernel, by decide +kernel⟩
  refine def_av (k := 6) (cl := cl__law_both) (st := s__law_both) ((wd X G c cx).mono (by decide)) (fun p hp => ?_) (funD_fun F) (He.glo_ok X G (c.fact 22 (f := .glo "_law_both") rfl)) (FunD.bindsN F fun _ _ _ _ _ _ us hl => match us, hl with | [_, _, _, _], _ => rfl) (by decide +kernel) S c__law_both (fun us G Q E h => ?_) w__law_both
  · unfold cl__law_both at hp
    simp only [List.mem_cons, List.mem_nil_iff, or_false] at hp
    rcases hp with rfl | rfl | rfl | rfl | rfl
    · exact (av_spread X G c cx).mono (by decide)
    · exact (av_kept_each X G c cx).mono (by decide)
    · exact (av__law_is_sound X G c cx).mono (by decide)
    · exact (av__law_kept X G c cx).mono (by decide)
    · exact (av__law_spread X G c cx).mono (by decide)
  · first | (obtain ⟨rfl, _⟩ := h; rfl) | (obtain ⟨_, rfl, _⟩ := h; rfl) | (obtain ⟨_, _, rfl, _⟩ := h; rfl) | (obtain ⟨_, _, _, rfl, _⟩ := h; rfl) | (obtain ⟨_, _, _, _, rfl, _⟩ := h; rfl) | (obtain ⟨_, _, _, _, _, rfl, _⟩ := h; rfl) | (obtain ⟨_, _, _, _, _, _, rfl, _⟩ := h; rfl) | (obtain ⟨_, _, _, _, _, _, _, rfl, _⟩ := h; rfl)
theorem av__law_steady : Av P w K mg base xcs 8 "_law_steady" sp__law_steady := by
  obtain ⟨fd, F⟩ := c.def_ 27 (d := d__law_steady) rfl
  have S : FnScope n__law_steady p__law_steady (defScope s__law_steady) := ⟨rfl, rfl, rfl, by decide +kernel, rfl, by decide +kernel, by decide +kernel⟩
  refine def_av (k := 6) (cl := cl__law_steady) (st := s__law_steady) ((wd X G c cx).mono (by decide)) (fun p hp => ?_) (funD_fun F) (He.glo_ok X G (c.fact 27 (f := .glo "_law_steady") rfl)) (FunD.bindsN F fun _ _ _ _ _ _ us hl => match us, hl with | [_], _ => rfl) (by decide +kernel) S c__law_steady (fun us G Q E h => ?_) w__law_steady
  · unfold cl__law_steady at hp
    simp only [List.mem_cons, List.mem_nil_iff, or_false] at hp
    rcases hp with rfl | rfl | rfl | rfl | rfl | rfl | rfl
    · exact (av__law_pair X G c cx).mono (by decide)
    · exact (av__law_common X G c cx).mono (by decide)
    · exact (av__law_weights X G c cx).mono (by decide)
    · exact (av__law_bins X G c cx).mono (by decide)
    · exact (av_steady X G c cx).mono (by decide)
    · exact (av__law_worth X G c cx).mono (by decide)
    · exact (av__law_constant X G c cx).mono (by decide)
  · first | (obtain ⟨rfl, _⟩ := h; rfl) | (obtain ⟨_, rfl, _⟩ := h; rfl) | (obtain ⟨_, _, rfl, _⟩ := h; rfl) | (obtain ⟨_, _, _, rfl, _⟩ := h; rfl) | (obtain ⟨_, _, _, _, rfl, _⟩ := h; rfl) | (obtain ⟨_, _, _, _, _, rfl, _⟩ := h; rfl) | (obtain ⟨_, _, _, _, _, _, rfl, _⟩ := h; rfl) | (obtain ⟨_, _, _, _, _, _, _, rfl, _⟩ := h; rfl)
theorem av__law_refused : Av P w K mg base xcs 8 "_law_refused" sp__law_refused := by
  obtain ⟨fd, F⟩ := c.def_ 28 (d := d__law_refused) rfl
  have S : FnScope n__law_refused p__law_refused (defScope s__law_refused) := ⟨rfl, rfl, rfl, by decide +kernel, rfl, by decide +kernel, by decide +kernel⟩
  refine def_av (k := 6) (cl := cl__law_refused) (st := s__law_refused) ((wd X G c cx).mono (by decide)) (fun p hp => ?_) (funD_fun F) (He.glo_ok X G (c.fact 28 (f := .glo "_law_refused") rfl)) (FunD.bindsN F fun _ _ _ _ _ _ us hl => match us, hl with | [_, _, _, _], _ => rfl) (by decide +kernel) S c__law_refused (fun us G Q E h => ?_) w__law_refused
  · unfold cl__law_refused at hp
    simp only [List.mem_cons, List.mem_nil_iff, or_false] at hp
    rcases hp with rfl | rfl | rfl
    · exact (av_spread X G c cx).mono (by decide)
    · exact (av_kept_each X G c cx).mono (by decide)
    · exact (av_steady X G c cx).mono (by decide)
  · first | (obtain ⟨rfl, _⟩ := h; rfl) | (obtain ⟨_, rfl, _⟩ := h; rfl) | (obtain ⟨_, _, rfl, _⟩ := h; rfl) | (obtain ⟨_, _, _, rfl, _⟩ := h; rfl) | (obtain ⟨_, _, _, _, rfl, _⟩ := h; rfl) | (obtain ⟨_, _, _, _, _, rfl, _⟩ := h; rfl) | (obtain ⟨_, _, _, _, _, _, rfl, _⟩ := h; rfl) | (obtain ⟨_, _, _, _, _, _, _, rfl, _⟩ := h; rfl)
theorem av__law_places : Av P w K mg base xcs 9 "_law_places" sp__law_places := by
  obtain ⟨fd, F⟩ := c.def_ 23 (d := d__law_places) rfl
  have S : FnScope n__law_places p__law_places (defScope s__law_places) := ⟨rfl, rfl, rfl, by decide +kernel, rfl, by decide +kernel, by decide +kernel⟩
  refine def_av (k := 7) (cl := cl__law_places) (st := s__law_places) ((wd X G c cx).mono (by decide)) (fun p hp => ?_) (funD_fun F) (He.glo_ok X G (c.fact 23 (f := .glo "_law_places") rfl)) (FunD.bindsN F fun _ _ _ _ _ _ us hl => match us, hl with | [_], _ => rfl) (by decide +kernel) S c__law_places (fun us G Q E h => ?_) w__law_places
  · unfold cl__law_places at hp
    simp only [List.mem_cons, List.mem_nil_iff, or_false] at hp
    rcases hp with rfl | rfl | rfl | rfl | rfl
    · exact (av__law_pair X G c cx).mono (by decide)
    · exact (av__law_common X G c cx).mono (by decide)
    · exact (av__law_pick X G c cx).mono (by decide)
    · exact (av__law_worth X G c cx).mono (by decide)
    · exact (av__law_both X G c cx).mono (by decide)
  · first | (obtain ⟨rfl, _⟩ := h; rfl) | (obtain ⟨_, rfl, _⟩ := h; rfl) | (obtain ⟨_, _, rfl, _⟩ := h; rfl) | (obtain ⟨_, _, _, rfl, _⟩ := h; rfl) | (obtain ⟨_, _, _, _, rfl, _⟩ := h; rfl) | (obtain ⟨_, _, _, _, _, rfl, _⟩ := h; rfl) | (obtain ⟨_, _, _, _, _, _, rfl, _⟩ := h; rfl) | (obtain ⟨_, _, _, _, _, _, _, rfl, _⟩ := h; rfl)
theorem av__law_refusals : Av P w K mg base xcs 9 "_law_refusals" sp__law_refusals := by
  obtain ⟨fd, F⟩ := c.def_ 29 (d := d__law_refusals) rfl
  have S : FnScope n__law_refusals p__law_refusals (defScope s__law_refusals) := ⟨rfl, rfl, rfl, by decide +kernel, rfl, by decide +kernel, by decide +kernel⟩
  refine def_av (k := 7) (cl := cl__law_refusals) (st := s__law_refusals) ((wd X G c cx).mono (by decide)) (fun p hp => ?_) (funD_fun F) (He.glo_ok X G (c.fact 29 (f := .glo "_law_refusals") rfl)) (FunD.bindsN F fun _ _ _ _ _ _ us hl => match us, hl with | [_], _ => rfl) (by decide +kernel) S c__law_refusals (fun us G Q E h => ?_) w__law_refusals
  · unfold cl__law_refusals at hp
    simp only [List.mem_cons, List.mem_nil_iff, or_false] at hp
    rcases hp with rfl | rfl
    · exact (av__law_pick X G c cx).mono (by decide)
    · exact (av__law_refused X G c cx).mono (by decide)
  · first | (obtain ⟨rfl, _⟩ := h; rfl) | (obtain ⟨_, rfl, _⟩ := h; rfl) | (obtain ⟨_, _, rfl, _⟩ := h; rfl) | (obtain ⟨_, _, _, rfl, _⟩ := h; rfl) | (obtain ⟨_, _, _, _, rfl, _⟩ := h; rfl) | (obtain ⟨_, _, _, _, _, rfl, _⟩ := h; rfl) | (obtain ⟨_, _, _, _, _, _, rfl, _⟩ := h; rfl) | (obtain ⟨_, _, _, _, _, _, _, rfl, _⟩ := h; rfl)
theorem ok_law {f : Addr} {fd : FuncData} (F : Fun K "law" "law" s_law f fd) : FnOk P w K mg base (L2.CX P w) 10 f fd p_law (cSp K mg ⟨[], [], xcs⟩ spLaw) := by
  have S : FnScope n_law p_law (defScope s_law) := ⟨rfl, rfl, rfl, by decide +kernel, rfl, by decide +kernel, by decide +kernel⟩
  refine def_ok (k := 8) (cl := cl_law) (st := s_law) ((wd X G c cx).mono (by decide)) (fun p hp => ?_) F S c_law (fun us G Q E h => ?_) w_law
  · unfold cl_law at hp
    simp only [List.mem_cons, List.mem_nil_iff, or_false] at hp
    rcases hp with rfl | rfl | rfl | rfl
    · exact (av__law_purse X G c cx).mono (by decide)
    · exact (av__law_refusals X G c cx).mono (by decide)
    · exact (av__law_steady X G c cx).mono (by decide)
    · exact (av__law_places X G c cx).mono (by decide)
  · first | (obtain ⟨rfl, _⟩ := h; rfl) | (obtain ⟨_, rfl, _⟩ := h; rfl) | (obtain ⟨_, _, rfl, _⟩ := h; rfl) | (obtain ⟨_, _, _, rfl, _⟩ := h; rfl) | (obtain ⟨_, _, _, _, rfl, _⟩ := h; rfl) | (obtain ⟨_, _, _, _, _, rfl, _⟩ := h; rfl) | (obtain ⟨_, _, _, _, _, _, rfl, _⟩ := h; rfl) | (obtain ⟨_, _, _, _, _, _, _, rfl, _⟩ := h; rfl)
end
end K71
open PySem PySem.W PySem.Calls PyProof.Rows
theorem PySem.Challenge.cw_samesamples_k71_whole_change_places_and_holds : PySem.Challenge.rw_samesamples_k71_whole_change_places_and.Holds := by
  w_on; o_law
  refine HandSHeadRun.head_any (r := OpenLaw.row PySem.Challenge.rw_samesamples_k71_whole_change_places_and) (q := view (OpenLaw.row PySem.Challenge.rw_samesamples_k71_whole_change_places_and).prog [40]) (H := K71.hk) (ob := K71.ob) (M := 4000) (loose := K71.loose) (d := HandSHeadRun.topDef (OpenLaw.row PySem.Challenge.rw_samesamples_k71_whole_change_places_and).prog 40) (kwd := []) K71.ob_eq
    (by kernel_rfl) (fun s => by kernel_rfl) K71.run (by kernel_rfl) (by kernel_rfl) (by kernel_rfl) (by rfl) (by first | assumption | decide +kernel) (by decide +kernel) ⟨rfl, rfl, rfl, rfl, rfl, by decide +kernel⟩ ?hw ?hc
  case hw => w_witness2
  case hc =>
    refine L2.walk_ofE (l := PySem.Challenge.rw_samesamples_k71_whole_change_places_and) (n := 63) (k := 10) (x := "_law_script") (CX := UL.CXA (PySem.Challenge.rw_samesamples_k71_whole_change_places_and).prog) rfl (by decide) (by kernel_rfl) ⟨rfl, by decide, by decide⟩ ?F UL.cxa_end
    intro w mg fa h Y G hmg0
    obtain ⟨K, KX, c, cx⟩ := Y
    have hmg : mg ("law" : PySem.Str) = some (.ref fa) := by
      have e : (HandSHeadRun.topDef (OpenLaw.row PySem.Challenge.rw_samesamples_k71_whole_change_places_and).prog 40).name = ("law" : PySem.Str) := by kernel_rfl
      rw [← e]
      exact hmg0
    obtain ⟨fd, F⟩ := c.def_ 30 (d := K71.d_law) rfl
    have e := hmg.symm.trans (He.glo_ok KX G (c.fact 30 (f := .glo "law") rfl))
    cases e
    have b := L2.FunD.bindsA (ps := K71.p_law) F fun _ _ _ _ _ _ us hl => match us, hl with | [_], _ => rfl
    exact ⟨K, fd, UL.cSp K mg ⟨[], [], K71.xcs⟩ K71.spLaw, KX, fun s v => b s [v] rfl, fun H a ns hl hO hS => UL.sp_law hO hS ⟨ns, rfl, hl, fun _ => rfl⟩, fun base _ _ => UL.fn_cx (K71.ok_law KX G c cx (UL.funD_fun F)) fun _ _ _ _ _ _ z => ⟨_, z⟩⟩
